import PyProof.Rows.All
import Wide.All
import OpenK.AllK
import Wide.FinOn
import HandS.ForMost
import HandS.ForExc
import HandS.TupAny
import HandS.Deep
import HandS.IsInst
import HandS.Zip
import HandS.SortKw
import HandS.AnyAll
import HandS.GenYield
import HandS.CallSlots
import HandS.Wide
import KE.SortData
import HandS.Lambda
import HandS.Nested
import KE.SortKeyHeap
import KE.DataCmp
import KE.DataEq
import KE.KDictKeyed
import KE.KDictCopyH
import KE.KDictList
import HandS.Style
import KE.KRevSl
import PyProof.SeqRoads
import HandS.List
import HandS.ExcValue
import PyProof.SumAny
import PyProof.WalksMore
import PyProof.TupleOfSeq
import HandS.Strs
import HandS.SetFor
import PyProof.ListNew
import PyProof.Rows.SetFrom
import HandS.ReCall
import KE.KDictSum
import HandS.TupMul
import KE.GoesRaise
import HandS.ExcInit
import HandS.ExcSuper
import KE.KExcSuper
import KE.KSuper
import KE.DataMinMax
import HandS.ExcField
import HandS.TryOnly
import HandS.ExcIs
import KE.KExcIs
import KE.LtData
import HandS.DictTup
import KE.DataFind
import HandS.Flow
import PyProof.Rows.SeqMore
import HandS.EndTab
import PySem.Challenge.RW_choicerows_k55_machines_made
set_option Elab.async false
set_option linter.all false
set_option maxRecDepth 100000
namespace Dv
open PySem PySem.Spec L2

abbrev D := PyData
abbrev Zn := Addr → Prop

/-- a list of the module's own: read off no tracked heap -/
abbrev LstK (K : PySem.W.Frag) (a : Addr) (xs : List V) : Prop := SqL K (fun _ => none) a xs
/-- a list that is read: tracked, known, or the module's own -/
abbrev LE (K : PySem.W.Frag) (H : Hp) (a : Addr) (xs : List V) : Prop := SqL K H a xs
theorem LstK.any {K : PySem.W.Frag} {H : Hp} {a : Addr} {xs : List V} : LstK K a xs → SqL K H a xs
  | .inl (.inl h) => nomatch h
  | .inl (.inr ⟨_, h⟩) => nomatch h
  | .inr h => .inr h
/-- v is the datum d: all its objects stand in the zone Z (never written again), or are the module's own -/
inductive R (K : PySem.W.Frag) (Z : Zn) (H : Hp) : V → D → Prop
  | non : R K Z H .non .none
  | bl (b : Bool) : R K Z H (.bl b) (.bool b)
  | int (i : Int) : R K Z H (.int i) (.int i)
  | str (x : Str) : R K Z H (.str x) (.str x)
  | lst {a : Addr} {xs : List V} {ds : List D} : Z a → Rd H a (.lst xs) → Paired (R K Z H) xs ds → R K Z H (.ref a) (.list ds)
  | tup {a : Addr} {xs : List V} {ds : List D} : Z a → H a = some (.tup xs) → Paired (R K Z H) xs ds → R K Z H (.ref a) (.tuple ds)
  | klst {a : Addr} {xs : List V} {ds : List D} : LstK K a xs → Paired (R K Z H) xs ds → R K Z H (.ref a) (.list ds)
  /-- a tuple of the module's own -/
  | ktup {a : Addr} {xs : List V} {ds : List D} : SqT K (fun _ => none) a xs → Paired (R K Z H) xs ds → R K Z H (.ref a) (.tuple ds)

abbrev Rs (K : PySem.W.Frag) (Z : Zn) (H : Hp) : List V → List D → Prop := Paired (R K Z H)

section paired
variable {α β : Type} {F G : α → β → Prop} {xs : List α} {ys : List β}
/-- place by place -/
theorem Pd.at (r : Paired F xs ys) : ∀ (i : Nat) (h : i < xs.length) (h' : i < ys.length), F xs[i] ys[i] := by
  induction r with
  | nil => intro i h; exact absurd h (Nat.not_lt_zero i)
  | cons q t ih =>
    intro i h h'
    match i with
    | 0 => exact q
    | i + 1 => exact ih i (Nat.lt_of_succ_lt_succ h) (Nat.lt_of_succ_lt_succ h')
theorem Pd.mk : ∀ (xs : List α) (ys : List β), xs.length = ys.length → (∀ (i : Nat) (h : i < xs.length) (h' : i < ys.length), F xs[i] ys[i]) → Paired F xs ys
  | [], [], _, _ => .nil
  | [], b :: ys, h, _ => absurd h.symm (Nat.succ_ne_zero ys.length)
  | a :: xs, [], h, _ => absurd h (Nat.succ_ne_zero xs.length)
  | a :: xs, b :: ys, h, p => .cons (p 0 (Nat.succ_pos _) (Nat.succ_pos _)) (Pd.mk xs ys (Nat.succ.inj h) fun i h h' => p (i + 1) (Nat.succ_lt_succ h) (Nat.succ_lt_succ h'))
theorem Pd.get {i : Nat} {y : β} (r : Paired F xs ys) (e : ys[i]? = some y) : ∃ x, xs[i]? = some x ∧ F x y := by
  obtain ⟨h, rfl⟩ := List.getElem?_eq_some_iff.mp e
  have h' : i < xs.length := by rw [r.length]; exact h
  exact ⟨xs[i], List.getElem?_eq_getElem h', Pd.at r i h' h⟩
theorem Pd.getl {i : Nat} {x : α} (r : Paired F xs ys) (e : xs[i]? = some x) : ∃ y, ys[i]? = some y ∧ F x y := by
  obtain ⟨h, rfl⟩ := List.getElem?_eq_some_iff.mp e
  have h' : i < ys.length := by rw [← r.length]; exact h
  exact ⟨ys[i], List.getElem?_eq_getElem h', Pd.at r i h h'⟩
theorem Pd.append : ∀ {xs xs' : List α} {ys ys' : List β}, Paired F xs ys → Paired F xs' ys' → Paired F (xs ++ xs') (ys ++ ys')
  | _, _, _, _, .nil, s => s
  | _, _, _, _, .cons r t, s => .cons r (Pd.append t s)
theorem Pd.take : ∀ {xs : List α} {ys : List β} (n : Nat), Paired F xs ys → Paired F (xs.take n) (ys.take n)
  | _, _, 0, _ => by simp; exact .nil
  | _, _, _ + 1, .nil => .nil
  | _, _, n + 1, .cons r t => .cons r (Pd.take n t)
theorem Pd.drop : ∀ {xs : List α} {ys : List β} (n : Nat), Paired F xs ys → Paired F (xs.drop n) (ys.drop n)
  | _, _, 0, r => r
  | _, _, _ + 1, .nil => .nil
  | _, _, n + 1, .cons r t => Pd.drop n t
theorem Pd.set {x : α} {y : β} (q : F x y) (i : Nat) (r : Paired F xs ys) : Paired F (xs.set i x) (ys.set i y) :=
  Pd.mk _ _ (by rw [List.length_set, List.length_set]; exact r.length) fun j h h' => by
    rw [List.getElem_set, List.getElem_set]
    split
    · exact q
    · exact Pd.at r j _ _
theorem Pd.rev : ∀ {xs : List α} {ys : List β}, Paired F xs ys → Paired F xs.reverse ys.reverse
  | _, _, .nil => .nil
  | _, _, .cons r t => by rw [List.reverse_cons, List.reverse_cons]; exact Pd.append (Pd.rev t) (.cons r .nil)
theorem Pd.imp (f : ∀ a b, F a b → G a b) : ∀ {xs : List α} {ys : List β}, Paired F xs ys → Paired G xs ys
  | _, _, .nil => .nil
  | _, _, .cons r t => .cons (f _ _ r) (Pd.imp f t)
end paired

section basic
variable {K : PySem.W.Frag} {Z Z' Z'' : Zn} {H H' H'' : Hp} {v : V} {d : D}

/-- what stands in the zone stays -/
structure Step (Z : Zn) (H : Hp) (Z' : Zn) (H' : Hp) : Prop where
  z : ∀ a, Z a → Z' a
  h : ∀ a o, Z a → H a = some o → H' a = some o
theorem Step.refl : Step Z H Z H := ⟨fun _ h => h, fun _ _ _ h => h⟩
theorem Step.trans (a : Step Z H Z' H') (b : Step Z' H' Z'' H'') : Step Z H Z'' H'' := ⟨fun x h => b.z x (a.z x h), fun x o hz h => b.h x o (a.z x hz) (a.h x o hz h)⟩
/-- nothing is written at all; the zone may take in what is new -/
structure Grow (Z : Zn) (H : Hp) (Z' : Zn) (H' : Hp) : Prop where
  z : ∀ a, Z a → Z' a
  n : ∀ a, Z' a → Z a ∨ H a = none
  h : ∀ a o, H a = some o → H' a = some o
  i : ∀ a, Z' a → H' a ≠ none
theorem Grow.step (g : Grow Z H Z' H') : Step Z H Z' H' := ⟨g.z, fun a o _ h => g.h a o h⟩
theorem Grow.refl (hi : ∀ a, Z a → H a ≠ none) : Grow Z H Z H := ⟨fun _ h => h, fun _ h => .inl h, fun _ _ h => h, hi⟩
theorem Grow.trans (a : Grow Z H Z' H') (b : Grow Z' H' Z'' H'') : Grow Z H Z'' H'' where
  z := fun x h => b.z x (a.z x h)
  n := fun x h => by
    rcases b.n x h with h | h
    · exact a.n x h
    · right
      cases e : H x with
      | none => rfl
      | some o => rw [a.h x o e] at h; cases h
  h := fun x o h => b.h x o (a.h x o h)
  i := b.i
/-- the zone with p -/
def Zn.put (Z : Zn) (p : Addr) : Zn := fun a => Z a ∨ a = p
theorem Zn.put_self {p : Addr} : Z.put p p := .inr rfl
theorem Grow.new {p : Addr} {o : HO} (hi : ∀ a, Z a → H a ≠ none) (hp : H p = none) : Grow Z H (Z.put p) (upd H p o) where
  z := fun a h => .inl h
  n := fun a h => by rcases h with h | h; exact .inl h; subst h; exact .inr hp
  h := fun a u e => by rw [upd_ne (ne_of_none e hp)]; exact e
  i := fun a h e => by
    rcases h with h | h
    · by_cases q : a = p
      · subst q; rw [upd_same] at e; cases e
      · rw [upd_ne q] at e; exact hi a h e
    · subst h; rw [upd_same] at e; cases e

theorem Rd.step {a : Addr} {o : HO} (s : Step Z H Z' H') (hz : Z a) (r : Rd H a o) : Rd H' a o := by
  rcases r with r | ⟨x, r⟩
  · exact .inl (s.h a _ hz r)
  · exact .inr ⟨x, s.h a _ hz r⟩
theorem SqT.any {a : Addr} {xs : List V} (h : SqT K (fun _ => none) a xs) : SqT K H a xs := by
  rcases h with (h | ⟨o, h⟩) | h
  · cases h
  · cases h
  · exact .inr h
theorem R.step (s : Step Z H Z' H') (r : R K Z H v d) : R K Z' H' v d :=
  R.rec (motive_1 := fun v d _ => R K Z' H' v d) (motive_2 := fun xs ds _ => Rs K Z' H' xs ds) .non .bl .int .str (fun hz hr _ ih => .lst (s.z _ hz) (Rd.step s hz hr) ih) (fun hz hr _ ih => .tup (s.z _ hz) (s.h _ _ hz hr) ih)
    (fun h _ ih => .klst h ih) (fun h _ ih => .ktup h ih) .nil (fun _ _ a b => .cons a b) r
theorem Rs.step {xs : List V} {ds : List D} (s : Step Z H Z' H') (r : Rs K Z H xs ds) : Rs K Z' H' xs ds := Pd.imp (fun _ _ h => R.step s h) r

theorem DpAll.of : ∀ {xs : List V} {ds : List D}, Paired (Dp K H) xs ds → DpAll K H xs ds
  | _, _, .nil => .nil
  | _, _, .cons a b => .cons a (DpAll.of b)
theorem R.dp (r : R K Z H v d) : Dp K H v d :=
  R.rec (motive_1 := fun v d _ => Dp K H v d) (motive_2 := fun xs ds _ => Paired (Dp K H) xs ds) .non .bl .int .str (fun _ hr _ ih => .lst (.inl hr) (DpAll.of ih)) (fun _ hr _ ih => .tup (.inl (.inl hr)) (DpAll.of ih))
    (fun h _ ih => .lst (LstK.any h) (DpAll.of ih)) (fun h _ ih => .tup (SqT.any h) (DpAll.of ih)) .nil (fun _ _ a b => .cons a b) r
theorem Rs.dp {xs : List V} {ds : List D} (r : Rs K Z H xs ds) : DpAll K H xs ds := DpAll.of (Pd.imp (fun _ _ h => R.dp h) r)

theorem R.int_inv {i : Int} (r : R K Z H v (.int i)) : v = .int i := by cases r; rfl
theorem R.bl_inv {b : Bool} (r : R K Z H v (.bool b)) : v = .bl b := by cases r; rfl
theorem R.str_inv {x : Str} (r : R K Z H v (.str x)) : v = .str x := by cases r; rfl
theorem R.non_inv (r : R K Z H v .none) : v = .non := by cases r; rfl
theorem R.lst_rd {ds : List D} (r : R K Z H v (.list ds)) : ∃ a xs, v = .ref a ∧ LE K H a xs ∧ Rs K Z H xs ds := by
  cases r with
  | lst hz hr h => exact ⟨_, _, rfl, .inl hr, h⟩
  | klst hk h => exact ⟨_, _, rfl, LstK.any hk, h⟩
theorem R.lst_inv {ds : List D} (r : R K Z H v (.list ds)) : ∃ a xs, v = .ref a ∧ SqL K H a xs ∧ Rs K Z H xs ds := by
  obtain ⟨a, xs, e, hr, h⟩ := r.lst_rd
  exact ⟨a, xs, e, hr, h⟩
theorem R.tup_inv {ds : List D} (r : R K Z H v (.tuple ds)) : ∃ a xs, v = .ref a ∧ SqT K H a xs ∧ Rs K Z H xs ds := by
  cases r with
  | tup hz hr h => exact ⟨_, _, rfl, .inl (.inl hr), h⟩
  | ktup hk h => exact ⟨_, _, rfl, SqT.any hk, h⟩
/-- stays readable -/
theorem R.lst_stay {ds : List D} (r : R K Z H v (.list ds)) : ∃ a xs, v = .ref a ∧ Rs K Z H xs ds ∧ ∀ Z' H', Step Z H Z' H' → SqL K H' a xs := by
  cases r with
  | lst hz hr h => exact ⟨_, _, rfl, h, fun Z' H' s => .inl (Rd.step s hz hr)⟩
  | klst hk h => exact ⟨_, _, rfl, h, fun Z' H' s => LstK.any hk⟩
theorem R.tup_stay {ds : List D} (r : R K Z H v (.tuple ds)) : ∃ a xs, v = .ref a ∧ Rs K Z H xs ds ∧ ∀ Z' H', Step Z H Z' H' → SqT K H' a xs := by
  cases r with
  | tup hz hr h => exact ⟨_, _, rfl, h, fun Z' H' s => .inl (.inl (s.h _ _ hz hr))⟩
  | ktup hk h => exact ⟨_, _, rfl, h, fun Z' H' s => SqT.any hk⟩
theorem Rs.plain {xs : List V} {ds : List D} (h : Paired (fun _ (d : D) => d.plain = true) xs ds) : PyData.plainAll ds = true := by
  induction h with
  | nil => rfl
  | cons a _ ih => simp [PyData.plainAll, a, ih]
theorem R.plain (r : R K Z H v d) : d.plain = true :=
  R.rec (motive_1 := fun v d _ => d.plain = true) (motive_2 := fun xs ds _ => Paired (fun _ (d : D) => d.plain = true) xs ds) rfl (fun _ => rfl) (fun _ => rfl) (fun _ => rfl) (fun _ _ _ ih => by simp only [PyData.plain]; exact Rs.plain ih)
    (fun _ _ _ ih => by simp only [PyData.plain]; exact Rs.plain ih) (fun _ _ ih => by simp only [PyData.plain]; exact Rs.plain ih) (fun _ _ ih => by simp only [PyData.plain]; exact Rs.plain ih) .nil (fun _ _ a b => .cons a b) r
theorem Rs.ints : ∀ {xs : List V} {ns : List Int}, Rs K Z H xs (ns.map .int) → xs = ns.map V.int
  | _, [], .nil => rfl
  | _, n :: ns, .cons a b => by rw [R.int_inv a, Rs.ints b]; rfl
theorem Rs.of_ints : ∀ (ns : List Int), Rs K Z H (ns.map V.int) (ns.map .int)
  | [] => .nil
  | n :: ns => .cons (.int n) (Rs.of_ints ns)
end basic

/-! ### the store of a def's names -/
/-- what a def owns and may write -/
inductive Ow where
  | lst (ds : List D) | obj (cls : Str) (fs : List (Str × D))
  /-- a dict of its own: its keys are numbers and texts, or tuples -/
  | dct (kvs : List (D × D))
  /-- the same while somebody walks over it: read, not written -/
  | dctw (kvs : List (D × D))
def Ow.isLst : Ow → Bool
  | .lst _ => true
  | .obj _ _ => false
  | .dct _ => false
  | .dctw _ => false
def Ow.isW : Ow → Bool
  | .dctw _ => true
  | _ => false
theorem Ow.isLst.w {o : Ow} (h : o.isLst = true) : o.isW = false := by cases o <;> first | rfl | cases h
/-- a datum as a key -/
def kOf : D → Option L2.Key
  | .int i => some (.inl i)
  | .str x => some (.inr x)
  | _ => none
mutual
/-- a datum as a key within a tuple -/
def nkOf : D → Option NestedKey
  | .int i => some (.num i)
  | .str x => some (.text x)
  | .tuple ds => (nksOf ds).map .tup
  | .none => none
  | .bool _ => none
  | .list _ => none
  | .dict _ => none
def nksOf : List D → Option (List NestedKey)
  | [] => some []
  | d :: ds => (nkOf d).bind fun k => (nksOf ds).map (k :: ·)
end
/-- a tuple as a key -/
def ktOf : D → Option NestedKey
  | .tuple ds => (nkOf (.tuple ds)).bind fun k => if k.depth ≤ 8 then some k else none
  | _ => none
inductive Sl where
  | no | fro (d : D) | own (o : Ow)
abbrev Sto := List Sl
/-- an exception -/
structure Xc where
  cls : Str
  fs : List (Str × D)
inductive Res (α : Type) where
  | ok (a : α) (S : Sto) | exc (x : Xc) (S : Sto) | bad
/-- a def hands back a datum; a datum, its first argument written; a list that nobody else has -/
inductive Kd where | pl | io | fr | tr
  deriving DecidableEq
/-- what a def gives back -/
inductive FR where
  | ok (d : D) (io : Option Ow) | okF (o : Ow) | okT (a b : D) (o : Ow) | exc (x : Xc) | bad

/-- tables of code objects; of the lambdas' ones: their entries' name; the module's names; the world -/
structure Tz where
  z : Addr → Prop
  q : Addr → Option Str
  cm : Str → Option Value
  w : World
instance : CoeFun Tz (fun _ => Addr → Prop) := ⟨Tz.z⟩
/-- the fields of an object -/
abbrev Fds (K : PySem.W.Frag) (Z : Zn) (H : Hp) : List (Str × V) → List (Str × D) → Prop := Paired fun p q => p.1 = q.1 ∧ R K Z H p.2 q.2
/-- the entries of a dict -/
abbrev Ens (K : PySem.W.Frag) (Z : Zn) (H : Hp) {κ : Type} (f : D → Option κ) : List (κ × V) → List (D × D) → Prop := Paired fun p q => f q.1 = some p.1 ∧ R K Z H p.2 q.2
/-- the entries of a dict whose keys are tuples, where they stand -/
abbrev Xs := List (NestedKey × Addr × Value)
def rawD (w : World) (a : Addr) (xs : Xs) : Heap → Prop := fun h => (a == sysModules) = false ∧ xs.length ≤ sizeLine ∧ (xs.map (·.1)).Nodup ∧
  ∃ o es ep, h.get? a = some o ∧ o.ExactDict ∧ o.data = .dict es ep ∧ es.toList = xs.map fun x => ⟨x.1.hash w, .ref x.2.1, x.2.2⟩
abbrev EnX (K : PySem.W.Frag) (Z : Zn) (H : Hp) : Xs → List (D × D) → Prop := Paired fun x q => ktOf q.1 = some x.1 ∧ R K Z H (.ref x.2.1) q.1 ∧ ∃ v, RelV v x.2.2 ∧ R K Z H v q.2
def DctAt (K : PySem.W.Frag) (w : World) (Z : Zn) (H : Hp) (a : Addr) (kvs : List (D × D)) : Prop :=
  (∃ es, H a = some (.dK es) ∧ Ens K Z H kOf es kvs) ∨ ∃ xs, H a = some (.ext (rawD w a xs)) ∧ EnX K Z H xs kvs ∧ kvs ≠ []
/-- a dict that somebody walks over -/
def DctW (K : PySem.W.Frag) (w : World) (Z : Zn) (H : Hp) (a : Addr) (kvs : List (D × D)) : Prop :=
  (∃ o es, H a = some (.frz o (.dK es)) ∧ Ens K Z H kOf es kvs) ∨ ∃ o xs, H a = some (.frz o (.ext (rawD w a xs))) ∧ EnX K Z H xs kvs ∧ kvs ≠ []
def OwnAt (K : PySem.W.Frag) (T : Tz) (Z : Zn) (H : Hp) (a : Addr) : Ow → Prop
  | .lst ds => ∃ xs, H a = some (.lst xs) ∧ Rs K Z H xs ds
  | .obj cls fs => ∃ C dx vs, T.cm cls = some (.ref C) ∧ H a = some (.ins C dx vs) ∧ Fds K Z H vs fs
  | .dct kvs => DctAt K T.w Z H a kvs
  | .dctw kvs => DctW K T.w Z H a kvs
/-- the entry of a def: the zone, the heap, what is handed over to be written (slot 0) -/
structure Ent where
  Z : Zn
  H : Hp
  M : Zn
  P : Addr → Option HO
  T : Tz

/-- a table of code objects: it may grow -/
def TabG (T : Tz) (H : Hp) (a : Addr) : Prop := ∃ ps : Array Value, H a = some (.tbl ps) ∧ TriplesOk ps.toList ∧ ∀ q, T.q a = some q → ∀ (pos : Pos) (cv : Value), codeAmong pos ps.toList = some cv → ∃ c, cv = .ref c ∧ H c = some (LamX.CodeO c q)
theorem codeO_lst {c : Addr} {q : Str} {xs : List V} : LamX.CodeO c q ≠ .lst xs := fun z => by
  unfold LamX.CodeO at z
  cases z
theorem codeO_ins {c C dx : Addr} {q : Str} {fs : List (Str × V)} : LamX.CodeO c q ≠ .ins C dx fs := fun z => by
  unfold LamX.CodeO at z
  cases z
theorem TabG.keep {T : Tz} {H H' : Hp} {a : Addr} (h : TabG T H a) (k : ∀ b o, H b = some o → (∀ xs, o ≠ .lst xs) ∧ (∀ C dx fs, o ≠ .ins C dx fs) → H' b = some o) : TabG T H' a :=
  let ⟨ps, e, t, u⟩ := h
  ⟨ps, k _ _ e ⟨fun xs z => (by cases z), fun C dx fs z => (by cases z)⟩, t, fun q hq pos cv hc => let ⟨c, e1, e2⟩ := u q hq pos cv hc; ⟨c, e1, k _ _ e2 ⟨fun xs => codeO_lst, fun C dx fs => codeO_ins⟩⟩⟩
structure SR (K : PySem.W.Frag) (e : Ent) (Z : Zn) (H : Hp) (σ : L2.St) (S : Sto) : Prop where
  ln : S.length = σ.length
  fro : ∀ (i : Nat) d, S[i]? = some (.fro d) → ∃ v, σ[i]? = some (some v) ∧ R K Z H v d
  own : ∀ (i : Nat) o, S[i]? = some (.own o) → ∃ a, σ[i]? = some (some (V.ref a)) ∧ ¬ Z a ∧ OwnAt K e.T Z H a o ∧ (e.H a = none ∨ e.M a ∧ i = 0)
  sep : ∀ (i j : Nat) o o' a, S[i]? = some (.own o) → S[j]? = some (.own o') → σ[i]? = some (some (V.ref a)) → σ[j]? = some (some (V.ref a)) → i = j
  zi : ∀ a, Z a → H a ≠ none
  ze : ∀ a, Z a → e.Z a ∨ e.H a = none
  st : Step e.Z e.H Z H
  kp : ∀ a o, e.H a = some o → ¬ e.M a → ¬ e.T a → H a = some o
  mi : ∀ a, e.M a → e.H a ≠ none ∧ ¬ e.Z a ∧ H a ≠ none ∧ σ[0]? = some (some (V.ref a))
  pn : ∀ a o, e.P a = some o → H a = some o ∧ ¬ Z a ∧ ∀ (j : Nat) o', S[j]? = some (.own o') → o'.isW = false → σ[j]? ≠ some (some (V.ref a))
  te : ∀ a, e.T a → e.H a ≠ none ∧ ¬ e.M a ∧ e.P a = none ∧ ¬ e.Z a
  tb : ∀ a, e.T a → TabG e.T H a

section
variable {K : PySem.W.Frag} {e : Ent} {Z Z' : Zn} {H H' : Hp} {σ σ' : L2.St} {S : Sto}
theorem OwnAt.there {T : Tz} {a : Addr} {o : Ow} (h : OwnAt K T Z H a o) : H a ≠ none := by
  cases o with
  | lst ds => obtain ⟨xs, e, _⟩ := h; rw [e]; simp
  | obj cls fs => obtain ⟨C, dx, vs, _, e, _⟩ := h; rw [e]; simp
  | dct kvs => rcases h with ⟨es, e, _⟩ | ⟨es, e, _⟩ <;> (rw [e]; simp)
  | dctw kvs => rcases h with ⟨o, es, e, _⟩ | ⟨o, es, e, _⟩ <;> (rw [e]; simp)
theorem Fds.step {vs : List (Str × V)} {fs : List (Str × D)} (g : Step Z H Z' H') (h : Fds K Z H vs fs) : Fds K Z' H' vs fs := Pd.imp (fun _ _ q => ⟨q.1, R.step g q.2⟩) h
theorem Ens.step {κ : Type} {f : D → Option κ} {es : List (κ × V)} {kvs : List (D × D)} (g : Step Z H Z' H') (h : Ens K Z H f es kvs) : Ens K Z' H' f es kvs := Pd.imp (fun _ _ q => ⟨q.1, R.step g q.2⟩) h
theorem OwnAt.step {T : Tz} {a : Addr} {o : Ow} (g : Step Z H Z' H') (k : ∀ o, H a = some o → H' a = some o) (h : OwnAt K T Z H a o) : OwnAt K T Z' H' a o := by
  cases o with
  | lst ds => obtain ⟨xs, e, r⟩ := h; exact ⟨xs, k _ e, Rs.step g r⟩
  | obj cls fs => obtain ⟨C, dx, vs, m, e, r⟩ := h; exact ⟨C, dx, vs, m, k _ e, Fds.step g r⟩
  | dct kvs =>
    rcases h with ⟨es, e, r⟩ | ⟨es, e, r⟩
    · exact .inl ⟨es, k _ e, Ens.step g r⟩
    · exact .inr ⟨es, k _ e, Pd.imp (fun _ _ q => ⟨q.1, R.step g q.2.1, q.2.2.imp fun _ z => ⟨z.1, R.step g z.2⟩⟩) r.1, r.2⟩
  | dctw kvs =>
    rcases h with ⟨o, es, e, r⟩ | ⟨o, es, e, r⟩
    · exact .inl ⟨o, es, k _ e, Ens.step g r⟩
    · exact .inr ⟨o, es, k _ e, Pd.imp (fun _ _ q => ⟨q.1, R.step g q.2.1, q.2.2.imp fun _ z => ⟨z.1, R.step g z.2⟩⟩) r.1, r.2⟩
theorem Grow.nz (g : Grow Z H Z' H') {a : Addr} (n : ¬ Z a) (h : H a ≠ none) : ¬ Z' a := fun z => by
  rcases g.n a z with q | q
  · exact n q
  · exact h q
/-- more general: everything but what M' names is kept, the zone takes in what is new; tables grow -/
structure Chg (T : Tz) (M : Zn) (Z : Zn) (H : Hp) (Z' : Zn) (H' : Hp) : Prop where
  z : ∀ a, Z a → Z' a
  n : ∀ a, Z' a → Z a ∨ H a = none
  h : ∀ a o, H a = some o → ¬ M a → ¬ T a → H' a = some o
  i : ∀ a, Z' a → H' a ≠ none
  t : ∀ a, H a ≠ none → H' a ≠ none
  m : ∀ a, M a → ¬ Z a
  tz : ∀ a, T a → ¬ Z a
  tg : ∀ a, T a → TabG T H' a
theorem Chg.step {T : Tz} {M : Zn} (g : Chg T M Z H Z' H') : Step Z H Z' H' := ⟨g.z, fun a o hz h => g.h a o h (fun m => g.m a m hz) fun t => g.tz a t hz⟩
theorem Grow.tab {T : Tz} (g : Grow Z H Z' H') {a : Addr} (h : TabG T H a) : TabG T H' a := h.keep fun b o e _ => g.h b o e
theorem Grow.chg {T : Tz} {M : Zn} (g : Grow Z H Z' H') (m : ∀ a, M a → ¬ Z a) (tz : ∀ a, T a → ¬ Z a) (tb : ∀ a, T a → TabG T H a) : Chg T M Z H Z' H' := ⟨g.z, g.n, fun a o h _ _ => g.h a o h, g.i, (fun a h q => by
  cases e : H a with
  | none => exact h e
  | some o => rw [g.h a o e] at q; cases q), m, tz, fun a t => g.tab (tb a t)⟩
theorem TabG.there {T : Tz} {a : Addr} (h : TabG T H a) : H a ≠ none := let ⟨_, e, _⟩ := h; fun q => by rw [q] at e; cases e
theorem SR.tz (s : SR K e Z H σ S) : ∀ a, e.T a → ¬ Z a := fun a t z => by
  obtain ⟨h1, _, _, h4⟩ := s.te a t
  rcases s.ze a z with q | q
  · exact h4 q
  · exact h1 q
theorem SR.ownT (s : SR K e Z H σ S) {i : Nat} {o : Ow} {a : Addr} (hi : S[i]? = some (.own o)) (ha : σ[i]? = some (some (V.ref a))) : ¬ e.T a := fun t => by
  obtain ⟨b, h1, _, _, h4⟩ := s.own i o hi
  rw [ha] at h1
  cases h1
  obtain ⟨t1, t2, _, _⟩ := s.te a t
  rcases h4 with q | q
  · exact t1 q
  · exact t2 q.1
/-- what was not there at the entry is new -/
theorem SR.new (s : SR K e Z H σ S) {a : Addr} (h : H a = none) : e.H a = none := by
  cases q : e.H a with
  | none => rfl
  | some o =>
    by_cases m : e.M a
    · exact absurd h (s.mi a m).2.2.1
    · by_cases t : e.T a
      · exact absurd h (s.tb a t).there
      · rw [s.kp a o q m t] at h; cases h
theorem SR.newP (s : SR K e Z H σ S) {a : Addr} (h : H a = none) : e.P a = none := by
  cases q : e.P a with
  | none => rfl
  | some o => rw [(s.pn a o q).1] at h; cases h
theorem SR.newO (s : SR K e Z H σ S) {a : Addr} (h : H a = none) (j : Nat) (o : Ow) (hj : S[j]? = some (.own o)) : σ[j]? ≠ some (some (V.ref a)) := fun hs => by
  obtain ⟨b, h1, _, h3, _⟩ := s.own j o hj
  rw [h1] at hs
  cases hs
  exact h3.there h
/-- a slot's claim given up -/
def Sto.kill (S : Sto) (i : Nat) : Sto := S.set i .no
/-- what M' names is owned at slot k at most: its claim is given up, all others stand -/
theorem SR.chg {M : Zn} (s : SR K e Z H σ S) (g : Chg e.T M Z H Z' H') (hM : ∀ a, M a → ∀ (i : Nat) (o : Ow), S[i]? = some (.own o) → σ[i]? = some (some (V.ref a)) → False) (hM2 : ∀ a, M a → e.H a = none ∨ e.M a) (hM3 : ∀ a, M a → e.P a = none) : SR K e Z' H' σ S where
  ln := s.ln
  fro := fun i d h => by obtain ⟨v, h1, h2⟩ := s.fro i d h; exact ⟨v, h1, R.step g.step h2⟩
  own := fun i o h => by
    obtain ⟨a, h1, h2, h3, h4⟩ := s.own i o h
    refine ⟨a, h1, fun z => ?_, h3.step g.step (fun o e => g.h a o e (fun m => hM a m i _ h h1) (s.ownT h h1)), h4⟩
    rcases g.n a z with q | q
    · exact h2 q
    · exact h3.there q
  sep := s.sep
  zi := g.i
  ze := fun a h => by
    rcases g.n a h with q | q
    · exact s.ze a q
    · exact .inr (s.new q)
  st := s.st.trans g.step
  kp := fun a o h m t => by
    refine g.h a o (s.kp a o h m t) (fun mm => ?_) t
    rcases hM2 a mm with q | q
    · rw [q] at h; cases h
    · exact m q
  mi := fun a m => by obtain ⟨h1, h2, h3, h4⟩ := s.mi a m; exact ⟨h1, h2, g.t a h3, h4⟩
  pn := fun a o h => by
    obtain ⟨h1, h2, h3⟩ := s.pn a o h
    refine ⟨g.h a o h1 (fun m => ?_) (fun t => ?_), fun z => ?_, h3⟩
    · rw [hM3 a m] at h; cases h
    · rw [(s.te a t).2.2.1] at h; cases h
    · rcases g.n a z with q | q
      · exact h2 q
      · rw [h1] at q; cases q
  te := s.te
  tb := g.tg
theorem SR.grow (s : SR K e Z H σ S) (g : Grow Z H Z' H') : SR K e Z' H' σ S :=
  s.chg (M := fun _ => False) (g.chg (fun _ h => h.elim) s.tz s.tb) (fun _ h => h.elim) (fun _ h => h.elim) (fun _ h => h.elim)
/-- a slot gets a datum -/
theorem SR.setF {i : Nat} {v : V} {d : D} (s : SR K e Z H σ S) (r : R K Z H v d) (hi : (∀ a, e.M a → i ≠ 0)) : SR K e Z H (σ.set i (some v)) (S.set i (.fro d)) where
  ln := by simp [s.ln]
  fro := fun j d' h => by
    by_cases hj : i = j
    · subst hj
      rw [List.getElem?_set] at h ⊢
      simp only [if_true] at h ⊢
      split at h
      · rename_i hl
        cases h
        rw [s.ln] at hl
        rw [if_pos hl]
        exact ⟨v, rfl, r⟩
      · cases h
    · rw [List.getElem?_set_ne hj] at h ⊢
      exact s.fro j d' h
  own := fun j o h => by
    by_cases hj : i = j
    · subst hj
      rw [List.getElem?_set] at h
      simp only [if_true] at h
      split at h <;> cases h
    · rw [List.getElem?_set_ne hj] at h ⊢
      exact s.own j o h
  sep := fun j k o o' a h1 h2 h3 h4 => by
    have nj : i ≠ j := by
      rintro rfl
      rw [List.getElem?_set] at h1
      simp only [if_true] at h1
      split at h1 <;> cases h1
    have nk : i ≠ k := by
      rintro rfl
      rw [List.getElem?_set] at h2
      simp only [if_true] at h2
      split at h2 <;> cases h2
    rw [List.getElem?_set_ne nj] at h1 h3
    rw [List.getElem?_set_ne nk] at h2 h4
    exact s.sep j k o o' a h1 h2 h3 h4
  zi := s.zi
  ze := s.ze
  st := s.st
  kp := s.kp
  mi := fun a m => by
    obtain ⟨h1, h2, h3, h4⟩ := s.mi a m
    exact ⟨h1, h2, h3, by rw [List.getElem?_set_ne (hi a m)]; exact h4⟩
  pn := fun a o h => by
    obtain ⟨h1, h2, h3⟩ := s.pn a o h
    refine ⟨h1, h2, fun j o' hj => ?_⟩
    have nj : i ≠ j := by
      rintro rfl
      rw [List.getElem?_set] at hj
      simp only [if_true] at hj
      split at hj <;> cases hj
    rw [List.getElem?_set_ne nj] at hj ⊢
    exact h3 j o' hj
  te := s.te
  tb := s.tb
/-- a slot gets a new object of its own -/
theorem SR.setO {i : Nat} {p : Addr} {o : Ow} (s : SR K e Z H σ S) (np : ¬ Z p) (hp : OwnAt K e.T Z H p o) (he : e.H p = none) (hq : ∀ (j : Nat) o', S[j]? = some (.own o') → σ[j]? ≠ some (some (V.ref p))) (hpn : e.P p = none) (hi : (∀ a, e.M a → i ≠ 0)) :
    SR K e Z H (σ.set i (some (V.ref p))) (S.set i (.own o)) where
  ln := by simp [s.ln]
  fro := fun j d' h => by
    by_cases hj : i = j
    · subst hj
      rw [List.getElem?_set] at h
      simp only [if_true] at h
      split at h <;> cases h
    · rw [List.getElem?_set_ne hj] at h ⊢
      exact s.fro j d' h
  own := fun j o' h => by
    by_cases hj : i = j
    · subst hj
      rw [List.getElem?_set] at h ⊢
      simp only [if_true] at h ⊢
      split at h
      · rename_i hl
        cases h
        rw [s.ln] at hl
        rw [if_pos hl]
        exact ⟨p, rfl, np, hp, .inl he⟩
      · cases h
    · rw [List.getElem?_set_ne hj] at h ⊢
      exact s.own j o' h
  sep := fun j k o1 o2 a h1 h2 h3 h4 => by
    by_cases hj : i = j
    · by_cases hk : i = k
      · exact hj.symm.trans hk
      · subst hj
        rw [List.getElem?_set_ne hk] at h2 h4
        rw [List.getElem?_set] at h3
        simp only [if_true] at h3
        split at h3
        · cases h3
          exact absurd h4 (hq k _ h2)
        · cases h3
    · by_cases hk : i = k
      · subst hk
        rw [List.getElem?_set_ne hj] at h1 h3
        rw [List.getElem?_set] at h4
        simp only [if_true] at h4
        split at h4
        · cases h4
          exact absurd h3 (hq j _ h1)
        · cases h4
      · rw [List.getElem?_set_ne hj] at h1 h3
        rw [List.getElem?_set_ne hk] at h2 h4
        exact s.sep j k o1 o2 a h1 h2 h3 h4
  zi := s.zi
  ze := s.ze
  st := s.st
  kp := s.kp
  mi := fun a m => by
    obtain ⟨h1, h2, h3, h4⟩ := s.mi a m
    exact ⟨h1, h2, h3, by rw [List.getElem?_set_ne (hi a m)]; exact h4⟩
  pn := fun a o2 h => by
    obtain ⟨h1, h2, h3⟩ := s.pn a o2 h
    refine ⟨h1, h2, fun j o' hj hw => ?_⟩
    by_cases nj : i = j
    · subst nj
      rw [List.getElem?_set]
      simp only [if_true]
      split
      · intro z
        cases z
        rw [hpn] at h; cases h
      · intro z; cases z
    · rw [List.getElem?_set_ne nj] at hj ⊢
      exact h3 j o' hj hw
  te := s.te
  tb := s.tb
/-- a claim given up, the slots as they are -/
theorem SR.kill {i : Nat} (s : SR K e Z H σ S) : SR K e Z H σ (S.kill i) where
  ln := by simp [Sto.kill, s.ln]
  fro := fun j d h => by
    unfold Sto.kill at h
    rw [List.getElem?_set] at h
    split at h
    · split at h <;> cases h
    · exact s.fro j d h
  own := fun j d h => by
    unfold Sto.kill at h
    rw [List.getElem?_set] at h
    split at h
    · split at h <;> cases h
    · exact s.own j d h
  sep := fun j k o o' a h1 h2 h3 h4 => by
    unfold Sto.kill at h1 h2
    rw [List.getElem?_set] at h1 h2
    split at h1
    · split at h1 <;> cases h1
    · split at h2
      · split at h2 <;> cases h2
      · exact s.sep j k o o' a h1 h2 h3 h4
  zi := s.zi
  ze := s.ze
  st := s.st
  kp := s.kp
  mi := s.mi
  pn := fun a o h => by
    obtain ⟨h1, h2, h3⟩ := s.pn a o h
    refine ⟨h1, h2, fun j o' hj => ?_⟩
    unfold Sto.kill at hj
    rw [List.getElem?_set] at hj
    split at hj
    · split at hj <;> cases hj
    · exact h3 j o' hj
  te := s.te
  tb := s.tb
/-- what is owned becomes a datum: the zone takes it in -/
def Ow.datum : Ow → D
  | .lst ds => .list ds
  | .obj _ _ => .none
  | .dct _ => .none
  | .dctw _ => .none
theorem OwnAt.r {T : Tz} {a : Addr} {o : Ow} (h : OwnAt K T Z H a o) (hl : o.isLst = true) : R K (Z.put a) H (V.ref a) o.datum := by
  cases o with
  | lst ds =>
    obtain ⟨xs, e, r⟩ := h
    exact .lst Zn.put_self (.inl e) (Rs.step ⟨fun a h => .inl h, fun _ _ _ h => h⟩ r)
  | obj cls fs => cases hl
  | dct kvs => cases hl
  | dctw kvs => cases hl
/-- the slots' claims do not look at the zone's new address, which is owned at slot i (or by none) -/
theorem SR.put {p : Addr} (s : SR K e Z H σ S) (hp : H p ≠ none) (he : e.H p = none) (hq : ∀ (j : Nat) o', S[j]? = some (.own o') → σ[j]? ≠ some (some (V.ref p))) (hpn : e.P p = none) : SR K e (Z.put p) H σ S where
  ln := s.ln
  fro := fun i d h => by obtain ⟨v, h1, h2⟩ := s.fro i d h; exact ⟨v, h1, R.step ⟨fun a h => .inl h, fun _ _ _ h => h⟩ h2⟩
  own := fun i o h => by
    obtain ⟨a, h1, h2, h3, h4⟩ := s.own i o h
    refine ⟨a, h1, fun z => ?_, h3.step ⟨fun a h => .inl h, fun _ _ _ h => h⟩ (fun _ h => h), h4⟩
    rcases z with q | q
    · exact h2 q
    · subst q; exact hq i o h h1
  sep := s.sep
  zi := fun a h => by
    rcases h with h | h
    · exact s.zi a h
    · subst h; exact hp
  ze := fun a h => by
    rcases h with h | h
    · exact s.ze a h
    · subst h; exact .inr he
  st := s.st.trans ⟨fun a h => .inl h, fun _ _ _ h => h⟩
  kp := s.kp
  mi := s.mi
  pn := fun a o h => by
    obtain ⟨h1, h2, h3⟩ := s.pn a o h
    refine ⟨h1, fun z => ?_, h3⟩
    rcases z with z | z
    · exact h2 z
    · subst z; rw [hpn] at h; cases h
  te := s.te
  tb := s.tb
end
end Dv

set_option maxHeartbeats 1000000
/-! t[::-1] of a tuple -/
namespace Dv
open PySem PySem.Spec PyProof.Rows L2

/-- where a whole cut backwards begins and ends, and how long it is -/
theorem back_ends (n : Nat) : Builtin.Slice.sliceAdjust none none (-1) (n : Int) = ((n : Int) - 1, -1) ∧ Builtin.Slice.slicePlaces ((n : Int) - 1) (-1) (-1) = n := by
  constructor
  · simp [Builtin.Slice.sliceAdjust]
  · cases n with
    | zero => rfl
    | succ n =>
      have e : ((n + 1 : Nat) : Int) - 1 > -1 := by omega
      have e2 : ((n + 1 : Nat) : Int) - 1 - -1 - 1 = (n : Int) := by omega
      simp only [Builtin.Slice.slicePlaces, if_pos e, e2]
      simp
/-- the items that it picks -/
theorem back_items (xs : Array Value) : ((List.range xs.size).filterMap fun (m : Nat) => xs[((xs.size : Int) - 1 + (m : Int) * (-1)).toNat]?) = xs.toList.reverse := by
  refine List.ext_getElem? fun i => ?_
  have hall : ∀ k, k ≤ xs.size → ((List.range k).filterMap fun (m : Nat) => xs[((xs.size : Int) - 1 + (m : Int) * (-1)).toNat]?) = xs.toList.reverse.take k := by
    intro k hk
    induction k with
    | zero => rfl
    | succ k ih =>
      have hp : ((xs.size : Int) - 1 + (k : Int) * (-1)).toNat = xs.size - 1 - k := by omega
      have hl : k < xs.toList.reverse.length := by rw [List.length_reverse, Array.length_toList]; omega
      have hx : xs[xs.size - 1 - k]? = some (xs.toList.reverse[k]'hl) := by
        rw [Array.getElem?_eq_getElem (show xs.size - 1 - k < xs.size by omega)]
        simp
      rw [List.range_succ, List.filterMap_append, ih (by omega), List.take_succ_eq_append_getElem hl, List.filterMap_cons, hp, hx]
      rfl
  rw [hall xs.size (Nat.le_refl _), List.take_of_length_le (by simp)]

section
variable {prog : Program} {w : World} {A : Around} {E : Value → Shared → Prop} {s : Shared}
/-- a slice [::-1], put to n places -/
theorem back_applied {sl : Addr} {vs : Value} {n : Nat} {Q : Int × Int × Nat → Shared → Prop} (hs : s.heap.IsSliceOf sl .none .none vs) (ps : IsPart vs (some (-1))) (h : Q ((n : Int) - 1, -1, n) s) :
    wpAny (model prog w) A (Builtin.Slice.sliceApplied (.ref sl) (pure (n : Int))) Q E s := by
  have three : wpAny (model prog w) A (Builtin.Slice.sliceFields (.ref sl)) (fun r s' => r = (.none, .none, vs) ∧ s' = s) E s := by
    obtain ⟨ob, at0, _, parts⟩ := hs
    exact wpAny_bind (wpAny_field at0 parts rfl (wpAny_bind (wpAny_field at0 parts rfl (wpAny_bind (wpAny_field at0 parts rfl (wpAny_pure ⟨rfl, rfl⟩))))))
  have gap : ∀ {Q' : Option Int → Shared → Prop}, Q' none s → wpAny (model prog w) A (Builtin.Slice.slicePartIndex .none) Q' E s := fun q => slicePart_none q
  have ends : wpAny (model prog w) A (Builtin.Slice.slicePartIndex .none >>= fun a => Builtin.Slice.slicePartIndex .none >>= fun b => (pure (n : Int) : Sem Int) >>= fun len =>
      pure ((Builtin.Slice.sliceAdjust a b (-1) len).1, (-1 : Int), Builtin.Slice.slicePlaces (Builtin.Slice.sliceAdjust a b (-1) len).1 (Builtin.Slice.sliceAdjust a b (-1) len).2 (-1))) Q E s := by
    refine wpAny_bind (gap (wpAny_bind (gap (wpAny_bind (wpAny_pure (wpAny_pure ?_))))))
    rw [(back_ends n).1]
    show Q ((n : Int) - 1, -1, Builtin.Slice.slicePlaces ((n : Int) - 1) (-1) (-1)) s
    rw [(back_ends n).2]
    exact h
  unfold Builtin.Slice.sliceApplied
  refine wpAny_bind (thn three fun r s' e => ?_)
  obtain ⟨rfl, rfl⟩ := e
  cases ps with
  | int _ u => exact wpAny_bind (slicePart_int ends)
/-- t[::-1] is a new tuple -/
theorem back_tuple {t sl : Addr} {items : Array Value} {vs : Value} {Q : Value → Shared → Prop} (ht : IsTup s.heap t items) (hs : s.heap.IsSliceOf sl .none .none vs) (ps : IsPart vs (some (-1))) (hz : items.size ≤ sizeLine)
    (h : Q (.ref s.heap.objs.size) { s with heap := s.heap.push { cls := .type "tuple", data := .seq items.toList.reverse.toArray } }) : wpAny (model prog w) A (getItem (.ref t) (.ref sl)) Q E s := by
  have fits : sizeOk (.seq items.toList.reverse.toArray) := by
    show _ ≤ sizeLine
    simpa using hz
  have isSl : s.TypeIs (.ref sl) "slice" := by
    obtain ⟨ob, at0, c, _⟩ := hs
    exact ⟨ob, at0, c⟩
  have made : wpAny (model prog w) A.in1 (Builtin.Tuple.tupleExact items.toList.reverse.toArray) (fun v s' => v = .ref s.heap.objs.size ∧ s' = { s with heap := s.heap.push { cls := .type "tuple", data := .seq items.toList.reverse.toArray } }) E s :=
    wpAny_newObj_type ⟨rfl, rfl⟩ fits
  have notWhole : (((items.size : Int) - 1) == 0 && (-1 : Int) == 1 && items.size == items.size) = false := by
    have : ((-1 : Int) == 1) = false := rfl
    rw [this, Bool.and_false, Bool.false_and]
  refine wpAny_getItem_slot ht.typeIs (by decide) PyProof.Rows.slot_tuple_getitem (wpAny_call_entry PyProof.Rows.slot_tuple_getitem ht.typeIs entry_tuple_getitem ?_ (args_tuple_getitem _ _))
  show wpAny _ _ (Builtin.Tuple.tupleItemsOf (.ref t) >>= _) _ _ s
  refine wpAny_bind (PyProof.Rows.tupleItemsOf_ ht (wpAny_bind (wpAny_typeOf isSl ?_)))
  rw [if_pos (by decide)]
  refine wpAny_bind (back_applied (n := items.size) hs ps ?_)
  show wpAny _ _ (if (((items.size : Int) - 1) == 0 && (-1 : Int) == 1 && items.size == items.size) = true then _ else _) _ _ s
  rw [notWhole, if_neg Bool.false_ne_true, back_items]
  refine wpAny_bind (thn made fun v s' e => ?_)
  obtain ⟨rfl, rfl⟩ := e
  exact wpAny_pure ⟨_, rfl, h⟩
end

section
variable {X : Cx} {k : Nat} {p1 p2 p3 pos : Pos}
/-- the cut itself is an object of its own -/
theorem back_cut {pins : List (Addr × Obj)} {s : Shared} {σ : L2.St} {H : Hp} (I : L2.Inv X pins σ H s) {Q : Value → Shared → Prop}
    (h : ∀ sl vs s', L2.Inv X pins σ H s' → s'.heap.IsSliceOf sl .none .none vs → IsPart vs (some (-1)) → Q (.ref sl) s') :
    wpAny (model X.prog X.w) X.A (eval (.Slice none none (some (.UnaryOp .USub (.Constant (.int 1) k p1) p2)) p3) X.env) Q X.xe s := by
  have step := (pe_un (X := X) (pos := p2) un_neg (pe_int (i := 1) (j := k) (pos := p1))).run pins s σ H (fun x H' => x = .int (-1) ∧ H' = H) I ⟨1, rfl, rfl, rfl⟩
  refine wpAny_Slice (wpAny_pure (wpAny_pure (thn step fun vs s' m => ?_)))
  obtain ⟨x, H', J, r, rfl, rfl⟩ := m
  obtain ⟨u, rfl⟩ := r
  exact h _ _ _ (J.kept (t' := s'.toks) fun b ob q => Heap.get?_push_of_some _ q) (Heap.IsSliceOf.new _ .none .none _) (.int _ _)
/-- t[::-1] -/
def tBack (K : PySem.W.Frag) (te : TE) : TE := fun σ H Q => te σ H fun x H1 => ∃ a xs, x = .ref a ∧ SqT K H1 a xs ∧ ∀ p, H1 p = none → Q (.ref p) (upd H1 p (.tup xs.reverse))
theorem pe_back {e : Expr} {te : TE} (he : PE X e te) : PE X (.Subscript e (.Slice none none (some (.UnaryOp .USub (.Constant (.int 1) k p1) p2)) p3) pos) (tBack X.K te) where
  run pins s σ H Q I h := Subscript_ (thn (he.run pins s σ H _ I h) fun v s1 ⟨x, H1, I1, r1, a, xs, ex, hx, q⟩ => back_cut I1 fun sl vs s2 I2 isl ps => by
    subst ex
    cases r1
    obtain ⟨its, r, ht, hz⟩ := I2.tuple hx
    have hlen := r.length
    refine tail_any (ops := [.ref a, .ref sl]) ht.typeIs PyProof.Rows.slot_tuple_getitem.lookup (back_tuple ht isl ps (by simpa using (by omega : its.length ≤ sizeLine)) ?_) (by with_unfolding_all rfl)
    refine ⟨.ref s2.heap.objs.size, _, I2.laid (t' := s2.toks) (o := .tup xs.reverse) (fun b ob q => Heap.get?_push_of_some _ q) (Nat.le_refl _) ?_, rfl, q _ (I2.hok.fresh (Nat.le_refl _))⟩
    exact ⟨by rw [List.length_reverse]; exact hz, _, r.reverse, IsTup.new _ _⟩)
end
end Dv

set_option maxHeartbeats 1000000
/-! sum and sorted of a tuple -/
namespace Dv
open PySem PySem.Spec PySem.Calls PyProof.Rows PySem.W
section
variable {prog : Program} {w : World} {A : Around} {E : Value → Shared → Prop} {s : Shared}
theorem sum_tup {t : Addr} {its : List Value} {ns : List Int} {Q : Value → Shared → Prop} (hh : A.handled = none) (ht : IsTup s.heap t its.toArray) (hi : IntsAre its ns)
    (h : ∀ h' tk t', (∀ b o, s.heap.get? b = some o → h'.get? b = some o) → Q (.int ns.sum t') { s with heap := h', toks := tk }) : wpAny (model prog w) A (call (.builtin "sum") [.ref t]) Q E s := by
  obtain ⟨xs, e⟩ := hi.allInts.items
  have hn : numsOf (intItems xs).toList = ns := by rw [← e]; exact hi.numsOf
  rw [nums_intItems] at hn
  rw [e] at ht
  have hT : s.heap.IsTuple t (intItems xs) := ht
  have hlt : t < s.heap.objs.size := by
    obtain ⟨o, ho, _⟩ := hT
    exact Heap.lt_size ho
  refine call_sum_walkAnyS (wpAny_pyIter_tuple hT ?_)
  refine ⟨_, [s.heap.objs.size, t], [s.heap.objs.size], _, _, _, _, numAt xs, rfl, (Walks.tuple (A := A.in1) hh s.heap.objs.size t (Nat.ne_of_lt hlt) (intItems xs)).toS, ⟨⟨_, Heap.get?_push_size _ rfl, rfl, rfl⟩, hT.push _⟩, fun c hc => ?_, (fun _ _ => intItems_at), fun s' t' m => ?_⟩
  · show c < (s.heap.push _).objs.size
    rw [Heap.size_push]
    rcases List.mem_cons.mp hc with rfl | hc
    · exact Nat.lt_succ_self _
    · rcases List.mem_cons.mp hc with rfl | hc
      · exact Nat.lt_succ_of_lt hlt
      · cases hc
  · have hs : s' = { s with heap := s'.heap, toks := s'.toks } := by
      have g1 : s'.gens = s.gens := m.gens
      have g2 : s'.drawn = s.drawn := m.drawn
      have g3 : s'.os = s.os := m.os
      cases s'
      simp only at g1 g2 g3
      subst g1 g2 g3
      rfl
    have := h s'.heap s'.toks t' fun b o q => m.heap b o (by
      have := Heap.lt_size q
      simp
      exact Nat.ne_of_lt this) (Heap.get?_push_of_some _ q)
    rw [hs]
    rw [preSum_eq, List.take_of_length_le (by simp [intItems]), hn]
    exact this
variable {β : Type} {R : Value → β → Prop} {enc : β → PyData} {vs : List Value} {bs : List β}
theorem sorted_tup {l : Addr} {Q : Value → Shared → Prop} (hl : IsTup s.heap l vs.toArray) (e : EachIs R vs bs) (er : EachIs (fun v b => ∃ as, Reads s.heap v (enc b) as) vs bs) (hal : AllAlike (bs.map enc)) (hk : Sortable (bs.map enc)) (hL : bs.length ≤ sizeLine)
    (hu : ∀ b, b ∈ bs → A.units + 2 + (enc b).depth < cLine)
    (h : ∀ out (h1 : Heap) c h', out.length = bs.length → EachIs R out (bs.mergeSort (dataLe false enc)) → (∀ b o, s.heap.get? b = some o → h1.get? b = some o) → (∀ b o, s.heap.get? b = some o → h'.get? b = some o) → h'.get? h1.objs.size = some (seqObj "list" out.toArray c) → Q (.ref h1.objs.size) { s with heap := h' }) :
    wpAny (model prog w) A (call (.builtin "sorted") [.ref l]) Q E s := by
  obtain ⟨o, ho, hc, n, hd⟩ := hl
  have hvl : vs.length ≤ sizeLine := by rw [e.length]; exact hL
  refine call_function_entry_kw kind_sorted plain_sorted entry_sorted (args_sorted1 _) ?_
  unfold Builtin.«sorted»
  refine wpAny_bind (m := checkCount "sorted" 1 1 _) (wpAny_pure ?_)
  refine wpAny_bind (wpAny_collect_seq l (.inr rfl) ho hc hd (fun h1 k1 => ?_) (by rw [List.size_toArray]; exact hvl))
  refine wpAny_bind (wpAny_newList ?_ hvl)
  have hat : (h1.push (seqObj "list" vs.toArray 0)).get? h1.objs.size = some (seqObj "list" vs.toArray 0) := Heap.get?_push_size _ rfl
  have k2 : ∀ b ob, s.heap.get? b = some ob → (h1.push (seqObj "list" vs.toArray 0)).get? b = some ob := fun b ob q => Heap.get?_push_of_some _ (k1 b ob q)
  have ne : ∀ b ob, s.heap.get? b = some ob → b ≠ h1.objs.size := fun b ob q => Nat.ne_of_lt (Heap.lt_size (k1 b ob q))
  refine wpAny_bind (wpAny_holding (wpAny_call_entry_kw slot_list_sort ⟨_, hat, rfl⟩ entry_list_sort ?body (args_list_sort _)))
  case body =>
    have er' : EachIs (fun v b => ∃ as, Reads (sortingHeap (h1.push (seqObj "list" vs.toArray 0)) h1.objs.size vs) v (enc b) as) vs bs := er.mono fun _ _ ⟨as, r⟩ => ⟨as, PyProof.Rows.Reads.keeps (fun b ob q => sortingHeap_old (ne b ob q) (k2 b ob q)) r⟩
    have S := SortsAt.data (prog := prog) (w := w) (A := A.in1.in1) (s := { s with heap := sortingHeap (h1.push (seqObj "list" vs.toArray 0)) h1.objs.size vs }) (each_map (R := fun v d => ∃ as, Reads (sortingHeap (h1.push (seqObj "list" vs.toArray 0)) h1.objs.size vs) v d as) enc er') hal hk (bound_map hu)
    refine list_sort_vals (s := { s with heap := h1.push (seqObj "list" vs.toArray 0) }) hat S hvl ?_
    refine ⟨_, rfl, wpAny_pure ⟨_, rfl, ?_⟩⟩
    obtain ⟨c, hc2⟩ := sortedHeap_at (h := h1.push (seqObj "list" vs.toArray 0)) (a := h1.objs.size) (vs := vs) (n := 0) (out := (sortVals (dataKind (sortingHeap (h1.push (seqObj "list" vs.toArray 0)) h1.objs.size vs) (bs.map enc)) false vs vs).toArray) hat
    refine h _ h1 c _ (by rw [sortVals_length false rfl]; exact e.length) (sortVals_data false e er' hal) k1 (fun b ob q => ?_) hc2
    have lt := Heap.lt_size (k2 b ob q)
    rw [sortedHeap_old (ne b ob q) lt]
    exact k2 b ob q
end
end Dv

set_option maxHeartbeats 1000000
/-! sorted with a key: small lambdas -/
namespace Dv
open PySem PySem.Spec PySem.Calls PyProof.Rows PySem.W
/-- what a key is made of -/
inductive Ky where
  | arg | item (i : Nat) (a : Ky) | len (a : Ky) | pair (a b : Ky)
def kyE : Ky → PyData → Option PyData
  | .arg, d => some d
  | .item i a, d => (kyE a d).bind fun e => match e with
    | .tuple xs => xs[i]?
    | _ => none
  | .len a, d => (kyE a d).bind fun e => match e with
    | .tuple xs => if xs.length ≤ sizeLine then some (.int xs.length) else none
    | _ => none
  | .pair a b, d => (kyE a d).bind fun x => (kyE b d).bind fun y => some (.tuple [x, y])
def chkY (x : Str) : Ky → Expr → Bool
  | .arg, e => match e with | .Name y _ => y == x | _ => false
  | .item i a, e => match e with | .Subscript z (.Constant (.int j) _ _) _ => decide (j = (i : Int)) && decide (i < 1000) && chkY x a z | _ => false
  | .len a, e => match e with | .Call (.Name g _) [z] [] _ => g == "len" && chkY x a z | _ => false
  | .pair a b, e => match e with | .Tuple [y, z] _ _ => chkY x a y && chkY x b z | _ => false
def Ky.lens : Ky → Bool
  | .arg => false
  | .item _ a => a.lens
  | .len _ => true
  | .pair a b => a.lens || b.lens
theorem chkY_plain {x : Str} {a : Ky} {e : Expr} {env : Env} (h : chkY x a e = true) (es : List Expr) : starEach (e :: es) env = (false, eval e env) :: starEach es env := by
  cases a <;> simp only [chkY] at h <;> split at h <;> first | (cases h; done) | rfl
theorem reads_all {h : Heap} : ∀ {vs : List Value} {ds : List PyData} {as : List Addr}, ReadsAll h vs ds as → as = [] → vs.length = ds.length ∧ ∀ (i : Nat) (v : Value) (d : PyData), vs[i]? = some v → ds[i]? = some d → Reads h v d []
  | _, _, _, .nil, _ => ⟨rfl, fun i v d e => by simp at e⟩
  | _, _, _, .cons (as := as) (bs := bs) r t, e => by
    obtain ⟨e1, e2⟩ := List.append_eq_nil_iff.mp e
    subst e1
    obtain ⟨l, f⟩ := reads_all t e2
    refine ⟨by simp [l], fun i v d hv hd => ?_⟩
    cases i with
    | zero =>
      simp at hv hd
      rw [← hv, ← hd]
      exact r
    | succ i => exact f i v d (by simpa using hv) (by simpa using hd)
theorem reads_tup {h : Heap} {u : Value} {xs : List PyData} (r : Reads h u (.tuple xs) []) : ∃ (t : Addr) (vs : List Value), u = .ref t ∧ IsTup h t vs.toArray ∧ vs.length = xs.length ∧ ∀ (i : Nat) (v : Value) (d : PyData), vs[i]? = some v → xs[i]? = some d → Reads h v d [] := by
  generalize hd : PyData.tuple xs = d at r
  generalize ha : ([] : List Addr) = as at r
  cases r with
  | tuple ho hc hdt ra =>
    cases hd
    rename_i a o vs n
    subst ha
    obtain ⟨l, f⟩ := reads_all ra rfl
    refine ⟨a, vs.toList, rfl, ⟨o, ho, hc, n, by rw [hdt]⟩, l, f⟩
  | _ => cases hd
structure KyCtx (env : Env) (x : Str) (h0 : Heap) (u : Value) (lens : Bool) : Prop where
  kind : env.scope.kind = .function
  loc : env.kindOf x = some .local
  nd : (x == ("__debug__" : Str)) = false
  ns : ∃ m, h0.Ns env.locals m ∧ m x = some u
  len : lens = true → env.kindOf "len" = some .globalImplicit ∧ ∃ mg mb, h0.Ns env.globals mg ∧ mg "len" = none ∧ h0.Ns env.builtins mb ∧ mb "len" = some (.builtin "len")
section
variable {prog : Program} {w : World} {A : Around} {E : Value → Shared → Prop} {env : Env} {x : Str} {h0 : Heap} {u : Value}
theorem ky_ok : ∀ (a : Ky) {ln : Bool} (C : KyCtx env x h0 u ln) (hl : a.lens = true → ln = true) {e : Expr} {d k : PyData}, chkY x a e = true → kyE a d = some k → Reads h0 u d [] → ∀ (s : Shared), (∀ b o, h0.get? b = some o → s.heap.get? b = some o) → wpAny (model prog w) A (eval e env) (fun v s' => KeyPure k s v s') E s
  | .arg, ln, C, hl, e, d, k, hc, hk, r, s, kp => by
    simp only [chkY] at hc
    split at hc
    · cases hk
      rename_i y p
      have e1 : y = x := by simpa using hc
      subst e1
      obtain ⟨m, n1, n2⟩ := C.ns
      exact wpAny_Name (wpAny_loadName_local C.kind C.loc (n1.keeps kp) n2 ⟨s.heap, s.toks, rfl, fun _ _ h => h, PyProof.Rows.Reads.keeps kp r⟩) C.nd
    · cases hc
  | .item i a, ln, C, hl, e, d, k, hc, hk, r, s, kp => by
    simp only [chkY] at hc
    split at hc
    · rename_i z j p1 p2 p3
      simp only [Bool.and_eq_true, decide_eq_true_eq] at hc
      obtain ⟨⟨hj, hi⟩, hz⟩ := hc
      subst hj
      simp only [kyE] at hk
      cases q : kyE a d with
      | none => rw [q] at hk; cases hk
      | some f =>
        rw [q] at hk
        simp only [Option.bind_some] at hk
        split at hk
        · rename_i xs
          refine Subscript_ (wpAny_mono (ky_ok a C hl hz q r s kp) (fun v s1 ⟨h1, t1, es1, k1, r1⟩ => ?_) fun _ _ e => e)
          subst es1
          obtain ⟨t, vs, rfl, ht, hlen, hr⟩ := reads_tup r1
          have hi2 : i < vs.length := by
            obtain ⟨hi2, _⟩ := List.getElem?_eq_some_iff.mp hk
            omega
          have gv : vs[i]? = some vs[i] := List.getElem?_eq_getElem hi2
          refine wpAny_Constant_int ?_
          refine item_tupleT (l := vs) (k := (i : Int)) (j := i) (x := vs[i]) ht (by omega) (by omega) ?_ gv ⟨h1, t1 + 1, rfl, k1, hr i _ _ gv hk⟩ (by with_unfolding_all rfl)
          unfold seqIndex?
          have n0 : ¬ ((i : Int) < 0) := by omega
          simp only [n0, if_false]
          simp [hi2]
        · cases hk
    · cases hc
  | .len a, ln, C, hl, e, d, k, hc, hk, r, s, kp => by
    simp only [chkY] at hc
    split at hc
    · rename_i g p1 z p2
      simp only [Bool.and_eq_true, beq_iff_eq] at hc
      obtain ⟨rfl, hz⟩ := hc
      simp only [kyE] at hk
      cases q : kyE a d with
      | none => rw [q] at hk; cases hk
      | some f =>
        rw [q] at hk
        simp only [Option.bind_some] at hk
        split at hk
        · rename_i xs
          by_cases hxs : xs.length ≤ sizeLine
          case neg => rw [if_neg hxs] at hk; cases hk
          rw [if_pos hxs] at hk
          cases hk
          obtain ⟨l1, mg, mb, g1, g2, g3, g4⟩ := C.len (hl rfl)
          refine wpAny_Call_Name_kw (Name_function_global C.kind l1 (loadGlobal_builtin (g1.keeps kp) g2 (g3.keeps kp) g4 ?_))
          refine PyProof.Rows.callWith_builtin1 (?_ : wpAny (model prog w) A (spliced (backTo _ (starEach (z :: []) env))) _ _ s) (chkY_plain hz []) rfl
          rw [chkY_plain hz []]
          refine Calls.spliced_cons (wpAny_mono (ky_ok a C (fun _ => hl rfl) hz q r s kp) (fun v s1 ⟨h1, t1, es1, k1, r1⟩ => ?_) fun _ _ e => e)
          subst es1
          refine Calls.spliced_nil ?_
          obtain ⟨t, vs, rfl, ht, hlen, hr⟩ := reads_tup r1
          have hz2 : (vs.length : Int) < 2 ^ 63 := by
            have : vs.length ≤ 16777216 := by rw [hlen]; exact hxs
            omega
          refine len_tuple ht (by rw [List.size_toArray]; exact hz2) ⟨h1, t1 + 1 + 1, rfl, k1, ?_⟩
          rw [List.size_toArray, hlen]
          exact .int _ _
        · cases hk
    · cases hc
  | .pair a b, ln, C, hl, e, d, k, hc, hk, r, s, kp => by
    simp only [chkY] at hc
    split at hc
    · rename_i y z p1 p2
      simp only [Bool.and_eq_true] at hc
      simp only [kyE] at hk
      cases q1 : kyE a d with
      | none => rw [q1] at hk; cases hk
      | some d1 =>
        cases q2 : kyE b d with
        | none => rw [q1, q2] at hk; cases hk
        | some d2 =>
          rw [q1, q2] at hk
          cases hk
          refine wpAny_Tuple_spliced ?_
          rw [chkY_plain hc.1 [z]]
          refine Calls.spliced_cons (wpAny_mono (ky_ok a C (fun h => hl (by simp [Ky.lens, h])) hc.1 q1 r s kp) (fun v s1 ⟨h1, t1, es1, k1, r1⟩ => ?_) fun _ _ e => e)
          subst es1
          rw [chkY_plain hc.2 []]
          refine Calls.spliced_cons (wpAny_mono (ky_ok b C (fun h => hl (by simp [Ky.lens, h])) hc.2 q2 r { s with heap := h1, toks := t1 } (fun b o h => k1 b o (kp b o h))) (fun v2 s2 ⟨h2, t2, es2, k2, r2⟩ => ?_) fun _ _ e => e)
          subst es2
          refine Calls.spliced_nil ⟨(by decide : 2 ≤ sizeLine), _, t2, rfl, fun b o h => Heap.get?_push_of_some _ (k2 b o (k1 b o h)), ?_⟩
          have kk : ∀ b o, h2.get? b = some o → (h2.push { cls := .type "tuple", data := .seq [v, v2].toArray }).get? b = some o := fun b o h => Heap.get?_push_of_some _ h
          exact .tuple (Heap.get?_push_size _ rfl) rfl rfl (.cons (as := []) (bs := []) (PyProof.Rows.Reads.keeps (fun b o h => kk b o (k2 b o h)) r1) (.cons (as := []) (bs := []) (PyProof.Rows.Reads.keeps kk r2) .nil))
    · cases hc
/-- what is asked of a key lambda's text -/
def kyScope (x : Str) (ln : Bool) (sc : Scope) : Bool :=
  (match sc.kind with | .function => true | _ => false) && !sc.isCoroutine && !sc.isGenerator && sc.names.all (fun y => match y.2 with | .cell => false | .free => false | _ => true) &&
    decide (sc.names.lookup x = some NameKind.local) && (!ln || decide (sc.names.lookup ("len" : Str) = some NameKind.globalImplicit)) && !(x == ("__debug__" : Str))
theorem lam_key {f c' : Addr} {qual : Str} {params : Arguments} {body : Expr} {scope : Scope} {pm ctv v : Value} {ky : Ky} {d k : PyData} {mg mb : Str → Option Value} (s : Shared)
    (hsc : kyScope x ky.lens scope = true) (hch : chkY x ky body = true) (hk : kyE ky d = some k) (hd : A.depth < recursionLimit)
    (hf : h0.get? f = some (kla_obj "<lambda>" qual params body scope [] pm c' ctv)) (hcd : h0.CodeRec (.ref c') qual) (hlim : h0.NoLimit)
    (hbind : bindArgs (kla_fn "<lambda>" qual params body scope [] pm (.ref c') ctv) ⟨[v], []⟩ = pure [(x, v)])
    (g1 : h0.Ns mainGlobals mg) (g2 : ky.lens = true → mg "len" = none) (g3 : h0.Ns builtinsNs mb) (g4 : mb "len" = some (.builtin "len")) (r : Reads h0 v d []) (kp : ∀ b o, h0.get? b = some o → s.heap.get? b = some o) (hl2 : s.heap.NoLimit) :
    wpAny (model prog w) A (call (.ref f) [v]) (KeyPure k s) E s := by
  unfold kyScope at hsc
  simp only [Bool.and_eq_true, Bool.not_eq_true', decide_eq_true_eq, Bool.or_eq_true, List.all_eq_true] at hsc
  obtain ⟨⟨⟨⟨⟨⟨s1, s2⟩, s3⟩, s4⟩, s5⟩, s6⟩, s7⟩ := hsc
  have hkind : scope.kind = .function := by
    cases q : scope.kind <;> rw [q] at s1 <;> first | rfl | cases s1
  refine wpAny_call ?_
  refine kla_callFunE hd (kp _ _ hf) rfl s2 s3 rfl (hcd.keeps kp) ?_
  rw [hbind]
  refine wpAny_pure (wpAny_newFunctionEnv (fun y hy e => ?_) (fun y hy => ?_) (fun h₁ hns hsb => ⟨hl2.fresh _ hsb, ?_⟩) hkind)
  · have := s4 y hy
    rw [e] at this
    cases this
  · rw [List.mem_singleton.mp hy]
    exact s5
  have kp1 : ∀ b o, s.heap.get? b = some o → h₁.get? b = some o := fun b o e => hsb.extBut b o (Nat.ne_of_lt (Heap.lt_size e)) (Heap.get?_push_of_some _ e)
  have kp0 : ∀ b o, h0.get? b = some o → h₁.get? b = some o := fun b o e => kp1 b o (kp b o e)
  refine kla_codeExpr (wpAny_mono (ky_ok (h0 := h₁) (u := v) ky (ln := ky.lens) ?_ (fun h => h) hch hk (PyProof.Rows.Reads.keeps kp0 r) { s with heap := h₁, toks := s.toks + [(x, v)].length } (fun b o e => e)) (fun u s' ⟨h', t', e, k1, r1⟩ => ?_) fun _ _ e => e)
  · exact { kind := hkind, loc := s5, nd := s7, ns := ⟨_, hns, by simp [List.lookup]⟩, len := fun h => ⟨s6.resolve_left (by rw [h]; simp), mg, mb, g1.keeps kp0, g2 h, g3.keeps kp0, g4⟩ }
  · subst e
    exact ⟨h', t', rfl, fun b o e => k1 b o (kp1 b o e), r1⟩
end
/-! ### the lambda made -/
theorem cloFrom_nil (cells : List (Str × Addr)) : ∀ (l : List (Str × NameKind)) (acc : List (Str × Addr)), (∀ y ∈ l, y.2 ≠ .free) → L2.cloFrom cells l acc = acc
  | [], _, _ => rfl
  | (n, k) :: l, acc, h => by
    have hk : (k == NameKind.free) = false := by
      have := h (n, k) (by simp)
      cases k <;> first | rfl | exact absurd rfl this
    rw [L2.cloFrom, hk]
    exact cloFrom_nil cells l acc fun y hy => h y (by simp [hy])
section
variable {X : L2.Cx} {pins : List (Addr × Obj)} {σ : L2.St} {H : L2.Hp} {s : Shared}
def LamTab (H : L2.Hp) (P : Addr) (q : Str) : Prop := ∃ ps : Array Value, H P = some (.tbl ps) ∧ TriplesOk ps.toList ∧ ∀ (pos : Pos) (cv : Value), codeAmong pos ps.toList = some cv → ∃ c, cv = .ref c ∧ H c = some (LamX.CodeO c q)
/-- one entry more: the new code object c' at a place -/
theorem lamTab_more {c' P : Addr} {q : Str} {ps : Array Value} {pos : Pos} (hP : H P = some (.tbl ps)) (ht : TriplesOk ps.toList) (ha : ∀ (pos : Pos) (cv : Value), codeAmong pos ps.toList = some cv → ∃ c, cv = .ref c ∧ H c = some (LamX.CodeO c q)) (new : H c' = none) {H1 : L2.Hp}
    (e : H1 = L2.upd (L2.upd H P (.tbl (ps ++ #[rawInt pos.line, rawInt pos.col, .ref c']))) c' (LamX.CodeO c' q)) :
    (∀ b o, b ≠ P → H b = some o → H1 b = some o) ∧ LamTab H1 P q ∧ H1 c' = some (LamX.CodeO c' q) := by
  have keep : ∀ b o, b ≠ P → H b = some o → H1 b = some o := fun b o hb hbo => by
    rw [e, L2.upd_ne (L2.ne_of_none hbo new), L2.upd_ne hb, hbo]
  have mine : H1 c' = some (LamX.CodeO c' q) := by rw [e, L2.upd_same]
  refine ⟨keep, ⟨_, by rw [e, L2.upd_ne (L2.ne_of_none hP new), L2.upd_same], ?_, fun p' cv hcv => ?_⟩, mine⟩
  · simpa using PySem.TriplesOk_snoc _ _ _ _ ht
  · cases LamX.among_app _ ht (c := .ref c') (pos := pos) (by simpa using hcv) with
    | inl old =>
      have ⟨c0, at0, is0⟩ := ha p' cv old
      exact ⟨c0, at0, keep c0 _ (fun w => LamX.codeO_ne ps (Option.some.inj ((w ▸ is0).symm.trans hP))) is0⟩
    | inr it => exact ⟨c', it, mine⟩
theorem lam_mk {c P : Addr} {q : Str} {params : Arguments} {body : Expr} {scope : Scope} {pos : Pos} {E Q : Value → Shared → Prop} (I : L2.Inv X pins σ H s) (TB : GxR.TabB X.base X.mg c P) (hcode : X.env.code = .ref c) (hq : X.env.qual ++ "<lambda>" = q) (hT : LamTab H P q)
    (hdef : defaultsOf params X.env = ([], [])) (hfree : ∀ y ∈ scope.names, y.2 ≠ .free)
    (h : ∀ (f c' : Addr) (pm ctv : Value) (H1 : L2.Hp) (s' : Shared), L2.Inv X pins σ H1 s' → (∀ b o, b ≠ P → H b = some o → H1 b = some o) → LamTab H1 P q → s'.heap.get? f = some (kla_obj "<lambda>" q params body scope [] pm c' ctv) → H1 c' = some (LamX.CodeO c' q) → Q (.ref f) s') : wpAny (model X.prog X.w) X.A (eval (.Lambda params body scope pos) X.env) Q E s := by
  have ⟨ps, hP, ht, ha⟩ := id hT
  have closed : closureFor scope X.env = pure [] := by rw [L2.closure_ok (fun y hy e => absurd e (hfree y hy)), cloFrom_nil _ _ _ hfree]
  have globals := I.mod.glob.keeps I.bk
  have code := TB.code.keeps I.bk
  have table := I.hok P _ hP
  have builtins := TB.bm.keeps I.bk
  have made : ∀ (h1 : Heap) (o : Obj), o.isFreed = false → (h1.push o).get? h1.objs.size = some o := fun h1 o ho => Heap.get?_push_size h1 ho
  apply kla_eval hdef
  rw [hq]
  cases hit : codeAmong pos ps.toList with
  | some cv =>
    have ⟨c', is, known⟩ := ha pos cv hit
    subst is
    exact kla_makeFunctionHit closed I.ok.glob globals hcode code table ht hit builtins fun ctv h1 tk kp _ => h _ c' _ ctv H _ (I.kept fun b o e => Heap.get?_push_of_some _ (kp b o e)) (fun _ _ _ e => e) hT (made h1 _ rfl) known
  | none =>
    refine kla_makeFunction closed I.ok.glob globals hcode code table ht hit TB.gP builtins fun c' ctv h1 tk ext above _ ⟨c2, oc, vs, t, is, has, data, name⟩ now => ?_
    cases is
    have ⟨keep, tab, mine⟩ := lamTab_more (pos := pos) hP ht ha (I.hok.fresh above) rfl
    exact h _ c' _ ctv _ _ (LamX.inv_table (t' := tk) I hP (fun b o hb e => Heap.get?_push_of_some _ (ext b o hb e)) (Heap.get?_push_of_some _ now) above ⟨oc, vs, t, Heap.get?_push_of_some _ has, data, name⟩) keep tab (made h1 _ rfl) mine
end
/-! ### data with no list in it -/
mutual
def nolD : PyData → Bool
  | .list _ => false
  | .dict _ => false
  | .tuple xs => nolDs xs
  | _ => true
def nolDs : List PyData → Bool
  | [] => true
  | x :: xs => nolD x && nolDs xs
end
mutual
theorem reads_nol {h : Heap} : ∀ {v : Value} {d : PyData} {as : List Addr}, Reads h v d as → nolD d = true → as = []
  | _, _, _, .none, _ => rfl
  | _, _, _, .bool _, _ => rfl
  | _, _, _, .int _ _, _ => rfl
  | _, _, _, .str _ _, _ => rfl
  | _, _, _, .list _ _ _ _, n => by simp [nolD] at n
  | _, _, _, .tuple _ _ _ r, n => readsAll_nol r (by simpa [nolD] using n)
  | _, _, _, .dict _ _ _ _ _, n => by simp [nolD] at n
theorem readsAll_nol {h : Heap} : ∀ {vs : List Value} {ds : List PyData} {as : List Addr}, ReadsAll h vs ds as → nolDs ds = true → as = []
  | _, _, _, .nil, _ => rfl
  | _, _, _, .cons r t, n => by
    simp only [nolDs, Bool.and_eq_true] at n
    rw [reads_nol r n.1, readsAll_nol t n.2]
    rfl
end
end Dv

set_option maxHeartbeats 1000000
/-! set(t), t a tuple of texts -/
namespace Dv
open PySem PySem.Spec PyProof.Rows L2

/-- the texts met so far, each once -/
def addS (acc : List Str) (x : Str) : List Str := if acc.contains x then acc else acc ++ [x]
def dd (xs : List Str) : List Str := xs.foldl addS []
theorem dd_snoc {xs : List Str} {x : Str} : dd (xs ++ [x]) = addS (dd xs) x := by simp [dd]
theorem dd_len : ∀ (xs acc : List Str), (xs.foldl addS acc).length ≤ acc.length + xs.length
  | [], acc => by simp
  | x :: xs, acc => by
    have := dd_len xs (addS acc x)
    have h2 : (addS acc x).length ≤ acc.length + 1 := by unfold addS; split <;> simp
    simp only [List.foldl_cons, List.length_cons]
    omega
section
variable {prog : Program} {w : World} {A : Around} {S I t : Addr} {items : Array Value} {xs : List Str} {H0 : Heap} {R : Result → Shared → Prop}
/-- how far the filling has come -/
structure Filled (prog : Program) (w : World) (S I t : Addr) (items : Array Value) (xs : List Str) (H0 : Heap) (i : Nat) (h : Heap) : Prop where
  it : h.IsTupleIter I t i
  tp : h.IsTuple t items
  st : h.SetOf (PySem.strKind prog w) S (fun k => (dd (xs.take i)).contains k) (dd (xs.take i)).length
  old : ∀ b o, b < S → H0.get? b = some o → h.get? b = some o
theorem fill_loop {s0 : Shared} (hh : A.in1.handled = none) (hS : S < I) (ht : t < S) (hi : ∀ i (h : i < xs.length), ∃ u, items[i]? = some (.str xs[i] u)) (hn : items.size = xs.length) (hz : xs.length + 1 < scanBound)
    (hR : ∀ (h' : Heap) (tk : Nat), h'.SetOf (PySem.strKind prog w) S (fun k => (dd xs).contains k) (dd xs).length → (∀ b o, b < S → H0.get? b = some o → h'.get? b = some o) → R (.ok (.ret .none)) { s0 with heap := h', toks := tk }) :
    ∀ (k i : Nat) (h : Heap) (tk : Nat), i + k = xs.length → Filled prog w S I t items xs H0 i h → codeAny (model prog w) A (.builtin "set.update.loop" ⟨[.ref S, .ref I], []⟩) R { s0 with heap := h, toks := tk } := by
  have nSI : S ≠ I := Nat.ne_of_lt hS
  have ntI : t ≠ I := Nat.ne_of_lt (Nat.lt_trans ht hS)
  intro k
  induction k with
  | zero =>
    intro i h tk e f
    have e : i = xs.length := e
    subst e
    refine codeAny_builtin F.entry_set_update_loop ?_
    rw [Around.under_plainId F.plain_set_update_loop _]
    refine wpAny_bind (m := pyNext (.ref I)) (wpAny_pyNext_tuple_end hh f.it f.tp (Array.getElem?_eq_none (by omega)) fun h' ext => wpAny_pure (hR h' tk ?_ fun b o hb ho => ext b o (Nat.ne_of_lt (Nat.lt_trans hb hS)) (f.old b o hb ho)))
    obtain ⟨o, es, ep, tb, at0, rest⟩ := f.st
    rw [List.take_length] at rest
    exact ⟨o, es, ep, tb, ext S o nSI at0, rest⟩
  | succ k ih =>
    intro i h tk e f
    have lt : i < xs.length := by omega
    obtain ⟨u, hu⟩ := hi i lt
    refine codeAny_builtin F.entry_set_update_loop ?_
    rw [Around.under_plainId F.plain_set_update_loop _]
    refine wpAny_bind (m := pyNext (.ref I)) (wpAny_pyNext_tuple_item f.it f.tp hu fun h1 it1 same => ?_)
    have st1 : h1.SetOf (PySem.strKind prog w) S (fun k => (dd (xs.take i)).contains k) (dd (xs.take i)).length := by
      obtain ⟨o, es, ep, tb, at0, rest⟩ := f.st
      exact ⟨o, es, ep, tb, same.extBut S o nSI at0, rest⟩
    have len : (dd (xs.take i)).length ≤ i := Nat.le_trans (dd_len (xs.take i) []) (by simp; omega)
    have add : wpAny (model prog w) A.in1 (setAdd S (.str xs[i] u)) (fun _ s' => ∃ h2 tk2, s' = { s0 with heap := h2, toks := tk2 } ∧ Filled prog w S I t items xs H0 (i + 1) h2) (fun _ _ => False) { s0 with heap := h1, toks := tk } := by
      unfold setAdd
      refine wpAny_holding (wpAny_bind ((PySem.strKind prog w).pyHash (k := xs[i]) (strKind_is _ _ _ _) ?_))
      refine wpAny_setAddHashed_of (knd := PySem.strKind prog w) (s := { s0 with heap := h1, toks := tk + 1 }) (strKind_is _ _ _ _) rfl st1 (by omega) fun h2 same2 st2 => ⟨h2, _, rfl, ?_⟩
      have ex2 := same2.extBut
      refine ⟨it1.at fun o q => ex2 I o (Ne.symm nSI) q, (f.tp.extBut same.extBut ntI).extBut ex2 (Nat.ne_of_lt ht), SetOf_congr st2 (fun y => ?_) ?_, fun b o hb ho => ex2 b o (Nat.ne_of_lt hb) (same.extBut b o (Nat.ne_of_lt (Nat.lt_trans hb hS)) (f.old b o hb ho))⟩
      · rw [List.take_succ_eq_append_getElem lt, dd_snoc]
        unfold addS
        by_cases c : (dd (xs.take i)).contains xs[i] = true
        · rw [if_pos c]
          by_cases ey : y = xs[i]
          · rw [ey, c]; rfl
          · simp [ey]
        · rw [if_neg c]
          by_cases ey : y = xs[i] <;> simp [ey]
      · rw [List.take_succ_eq_append_getElem lt, dd_snoc]
        unfold addS
        split <;> simp
    refine wpAny_bind (m := holding [Value.str xs[i] u] (setAdd S (.str xs[i] u))) (wpAny_holding (wpAny_mono add (fun _ s' q => ?_) fun _ _ z => z.elim))
    obtain ⟨h2, tk2, rfl, f2⟩ := q
    exact wpAny_pure ⟨plainId_quiet F.plain_set_update_loop _, ih (i + 1) h2 tk2 (by omega) f2⟩
end
section
variable {prog : Program} {w : World} {A : Around} {E : Value → Shared → Prop} {s : Shared}
/-- set's own first step: the new set takes the texts -/
theorem setInit_texts {S t : Addr} {led : Bool} {items : Array Value} {xs : List Str} {Q : Value → Shared → Prop} (hh : A.handled = none) (at0 : s.heap.get? S = some { cls := .type "set", dict := none, data := .set #[] 0 (.fresh 0 0 led) }) (hS : S + 1 = s.heap.objs.size) (ht : t < S)
    (tp : s.heap.IsTuple t items) (hi : ∀ i (h : i < xs.length), ∃ u, items[i]? = some (.str xs[i] u)) (hn : items.size = xs.length) (hz : xs.length + 1 < scanBound)
    (h : ∀ (h' : Heap) (tk : Nat), h'.SetOf (PySem.strKind prog w) S (fun k => (dd xs).contains k) (dd xs).length → (∀ b o, b < S → s.heap.get? b = some o → h'.get? b = some o) → Q .none { s with heap := h', toks := tk }) :
    wpAny (model prog w) A (call (.builtin "set.__init__") [.ref S, .ref t]) Q E s := by
  have tS : s.TypeIs (.ref S) "set" := ⟨_, at0, rfl⟩
  have tT : s.TypeIs (.ref t) "tuple" := tp.typeIs
  refine wpAny_call (codeAny_call_builtin F.called_set.init.plain F.entry_set_init (check_set_init_1 tS ?_))
  have i1 := F.sub_tuple_set
  have i2 := F.sub_tuple_frozenset
  have filled : ∀ (A' : Around), A'.in1.handled = none → ∀ {R : Result → Shared → Prop}, (∀ (h' : Heap) (tk : Nat), h'.SetOf (PySem.strKind prog w) S (fun k => (dd xs).contains k) (dd xs).length → (∀ b o, b < S → s.heap.get? b = some o → h'.get? b = some o) → R (.ok (.ret .none)) { s with heap := h', toks := tk }) →
      codeAny (model prog w) A' (.builtin "set.update.loop" ⟨[.ref S, .ref s.heap.objs.size], []⟩) R { s with heap := s.heap.push { cls := .type "tuple_iterator", data := .fields #[.ref t, .int 0 0] } } := fun A' hA R hR => by
    refine fill_loop (s0 := s) (xs := xs) (H0 := s.heap) hA (hS ▸ Nat.lt_succ_self S) ht hi hn hz hR xs.length 0 _ s.toks (Nat.zero_add _) ⟨⟨_, Heap.get?_push_size _ rfl, rfl, rfl⟩, tp.push _, ?_, fun b o _ q => Heap.get?_push_of_some _ q⟩
    exact SetOf_congr ((setObjOf_fresh (knd := PySem.strKind prog w) led).setOf (Heap.get?_push_of_some _ at0) (by unfold scanBound; omega)) (fun _ => rfl) rfl
  obtain ⟨ol, hol, hcl, nl, hdl⟩ := id tp
  unfold Builtin.«set.__init__» noKeywords Builtin.Frozenset.updateFrom
  generalize hPI : pyIter = PI
  wp_walk
  subst hPI
  refine wpAny_pyIter_tuple tp (wpAny_bind (wpAny_runValue (filled A.in1 (by simpa using hh) fun h' tk st old => ?_)))
  refine wpAny_pure ?_
  exact wpAny_pure (h h' tk st old)
/-- set(t): each text once -/
theorem set_texts {t : Addr} {items : Array Value} {xs : List Str} {Q : Value → Shared → Prop} (hh : A.handled = none) (tp : s.heap.IsTuple t items) (hi : ∀ i (h : i < xs.length), ∃ u, items[i]? = some (.str xs[i] u)) (hn : items.size = xs.length) (hz : xs.length + 1 < scanBound)
    (h : ∀ (h' : Heap) (tk : Nat), h'.SetOf (PySem.strKind prog w) s.heap.objs.size (fun k => (dd xs).contains k) (dd xs).length → (∀ b o, s.heap.get? b = some o → h'.get? b = some o) → Q (.ref s.heap.objs.size) { s with heap := h', toks := tk }) :
    wpAny (model prog w) A (call (.type "set") [.ref t]) Q E s := by
  have tlt : t < s.heap.objs.size := by
    obtain ⟨o, at0, _⟩ := tp
    exact Heap.lt_size at0
  refine wpAny_call (codeAny_of_tree ?_)
  show wpAny _ _ (callAny (.type "set") _) _ _ _
  refine wpAny_pure ⟨Code.quiet_builtin _ (by decide +kernel), codeAny_builtin F.entry_type_call ?_⟩
  rw [Around.under_plain (weight_type_call_type "set" [.ref t] []) rfl]
  have fm := F.called_set.made
  have fs := F.called_set.sub
  have fn := F.called_set.notType
  have fc := F.called_set.canCreate
  have ft := F.typeCall_set_1 (.ref t)
  obtain ⟨c, tl, fo⟩ := F.called_set.mro
  repeat (any_goals (first | assumption | wp_step))
  refine codeAny_mono (code_set_new_1 (.ref t) (E := E) (Q₁ := fun v s₁ => ∃ led : Bool, v = .ref s.heap.objs.size ∧ s₁ = { s with heap := s.heap.push { cls := .type "set", dict := none, data := .set #[] 0 (.fresh 0 0 led) } }) fun led => ⟨led, rfl, rfl⟩) ?_
  rintro (er | fl) s₁ hr
  · exact hr
  cases fl with
  | ret v =>
    obtain ⟨led, rfl, rfl⟩ := hr
    have at0 : (s.heap.push { cls := .type "set", dict := none, data := .set #[] 0 (.fresh 0 0 led) }).get? s.heap.objs.size = some { cls := .type "set", dict := none, data := .set #[] 0 (.fresh 0 0 led) } := Heap.get?_push_size _ rfl
    have fill := setInit_texts (prog := prog) (w := w) (A := A.in1) (E := E) (s := { s with heap := s.heap.push { cls := .type "set", dict := none, data := .set #[] 0 (.fresh 0 0 led) } }) (Q := fun r s' => r = .none ∧ Q (.ref s.heap.objs.size) s') (by simpa using hh) at0 (Heap.size_push _ _).symm tlt (tp.push _) hi hn hz
      fun h' tk st old => ⟨rfl, h h' tk st fun b o q => old b o (Heap.lt_size q) (Heap.get?_push_of_some _ q)⟩
    refine wpAny_bind (wpAny_isInstance ⟨_, at0, rfl⟩ fs ?_)
    wp_step
    refine wpAny_bind (wpAny_holding (wpAny_callSpecial?_slot ⟨_, at0, rfl⟩ F.called_set.init (wpAny_mono fill (fun r s' q => ?_) fun _ _ z => z)))
    obtain ⟨rfl, q⟩ := q
    wp_walk
    exact q
  | _ => exact hr.elim
end
/-! the same over data -/
/-- a set object of n members at a -/
def SetN (a : Addr) (n : Nat) : HO := .ext fun h => ∃ o es ep tb, h.get? a = some o ∧ o.ExactSet ∧ o.data = .set es ep tb ∧ tb.fits es.size = true ∧ es.size = n
section
variable {X : Cx}
theorem vals_at : ∀ {ys : List Str} {us : List Value}, Vals (ys.map V.str) us → ∀ i (h : i < ys.length), ∃ u, us[i]? = some (.str ys[i] u)
  | y :: ys, _, .cons r q, 0, _ => by
    obtain ⟨u, rfl⟩ := r
    exact ⟨u, rfl⟩
  | y :: ys, _, .cons r q, i + 1, h => by
    obtain ⟨u, e⟩ := vals_at q i (by simpa using h)
    exact ⟨u, by simpa using e⟩
theorem cr_setT (hc : X.calm = true) : CallR X (.type "set") (fun xs H Q => ∃ a ys, xs = [V.ref a] ∧ SqT X.K H a (ys.map V.str) ∧ ys.length ≤ 100 ∧ ∀ p, H p = none → Q (.ref p) (upd H p (SetN p (dd ys).length))) := by
  intro pins s σ H xs us Q I r ⟨a, ys, ex, hq, hl, q⟩
  subst ex
  cases r with
  | cons r1 r2 =>
    cases r1
    cases r2
    obtain ⟨its, rv, tp, hz⟩ := I.tuple hq
    have len : its.toArray.size = ys.length := by rw [List.size_toArray, ← rv.length, List.length_map]
    refine set_texts (I.ok.hd hc) tp (fun i h => ?_) len (by unfold scanBound; omega) fun h' tk st old => ?_
    · obtain ⟨u, e⟩ := vals_at rv i h
      exact ⟨u, by simpa using e⟩
    · obtain ⟨o, es, ep, tb, at0, hex, hd, _, _, _, hf, hn⟩ := st
      refine ⟨.ref s.heap.objs.size, _, I.laid (t' := tk) (o := SetN s.heap.objs.size (dd ys).length) (fun b o e => old b o e) (Nat.le_refl _) ⟨⟨o, es, ep, tb, at0, hex, hd, hf, hn⟩, ⟨o, at0⟩, fun h1 h2 ⟨o1, e1, e2, e3, g1, g2⟩ k => ⟨o1, e1, e2, e3, k _ g1, g2⟩⟩, rfl, q _ (I.hok.fresh (Nat.le_refl _))⟩
/-- numbers, each once -/
def addI (acc : List Int) (x : Int) : List Int := if acc.contains x then acc else acc ++ [x]
def ddI (xs : List Int) : List Int := xs.foldl addI []
theorem ddI_gen : ∀ (xs acc : List Int), acc.Nodup → (xs.foldl addI acc).Nodup ∧ ∀ a, a ∈ xs.foldl addI acc ↔ a ∈ acc ∨ a ∈ xs
  | [], acc, h => ⟨h, fun a => by simp⟩
  | x :: xs, acc, h => by
    have n : (addI acc x).Nodup := by
      unfold addI
      split
      · exact h
      · rename_i c
        refine List.nodup_append.mpr ⟨h, by simp, fun a ha b hb e => c ?_⟩
        simp at hb
        subst hb e
        simpa using ha
    obtain ⟨h1, h2⟩ := ddI_gen xs (addI acc x) n
    refine ⟨h1, fun a => (h2 a).trans ?_⟩
    unfold addI
    split
    · rename_i c
      simp only [List.mem_cons]
      constructor
      · rintro (q | q)
        · exact .inl q
        · exact .inr (.inr q)
      · rintro (q | q | q)
        · exact .inl q
        · subst q; exact .inl (by simpa using c)
        · exact .inr q
    · simp only [List.mem_append, List.mem_cons, List.not_mem_nil, or_false]
      constructor
      · rintro ((q | q) | q)
        · exact .inl q
        · exact .inr (.inl q)
        · exact .inr (.inr q)
      · rintro (q | q | q)
        · exact .inl (.inl q)
        · exact .inl (.inr q)
        · exact .inr q
theorem ddI_nd (xs : List Int) : (ddI xs).Nodup := (ddI_gen xs [] .nil).1
theorem ddI_mem (xs : List Int) (a : Int) : a ∈ ddI xs ↔ a ∈ xs := by simpa [ddI] using (ddI_gen xs [] .nil).2 a
theorem ddI_le (xs : List Int) : (ddI xs).length ≤ xs.length := by
  have : ∀ (xs acc : List Int), (xs.foldl addI acc).length ≤ acc.length + xs.length := by
    intro xs
    induction xs with
    | nil => intro acc; simp
    | cons x xs ih =>
      intro acc
      have := ih (addI acc x)
      have h2 : (addI acc x).length ≤ acc.length + 1 := by unfold addI; split <;> simp
      simp only [List.foldl_cons, List.length_cons]
      omega
  simpa [ddI] using this xs []
theorem ints_at : ∀ {ns : List Int} {us : List Value}, Vals (ns.map V.int) us → IntsAre us ns
  | [], _, .nil => .nil
  | n :: ns, _, .cons r q => by
    obtain ⟨t, rfl⟩ := r
    exact .cons n t (ints_at q)
theorem cr_setI (hc : X.calm = true) : CallR X (.type "set") (fun xs H Q => ∃ a ns, xs = [V.ref a] ∧ SqT X.K H a (ns.map V.int) ∧ ns.length ≤ 100 ∧ ∀ p, H p = none → Q (.ref p) (upd H p (SetN p (ddI ns).length))) := by
  intro pins s σ H xs us Q I r ⟨a, ns, ex, hq, hl, q⟩
  subst ex
  cases r with
  | cons r1 r2 =>
    cases r1
    cases r2
    obtain ⟨its, rv, tp, hz⟩ := I.tuple hq
    refine call_set_tupI ns (I.ok.hd hc) tp (by simpa using ints_at rv) (by unfold scanBound; omega) fun h' tk c st _ old => ?_
    obtain ⟨o, es, ep, t, at0, hex, hd, _, nd, mem, _, hf, hn, _⟩ := st
    have len : c = (ddI ns).length := by
      have p := (List.perm_ext_iff_of_nodup nd (ddI_nd ns)).mpr fun k => by
        rw [← mem k, ddI_mem]
        simp
      have := p.length_eq
      rw [List.length_map] at this
      rw [← hn, ← this]
      simp
    exact ⟨.ref s.heap.objs.size, _, I.laid (t' := tk) (o := SetN s.heap.objs.size (ddI ns).length) (fun b o e => old b o e) (Nat.le_refl _) ⟨⟨o, es, ep, t, at0, hex, hd, hf, by rw [hn, len]⟩, ⟨o, at0⟩, fun h1 h2 ⟨o1, es1, ep1, t1, a1, a2, a3, a4, a5⟩ k => ⟨o1, es1, ep1, t1, k _ a1, a2, a3, a4, a5⟩⟩, rfl, q _ (I.hok.fresh (Nat.le_refl _))⟩
theorem cr_lenT : CallR X (.builtin "len") (fun xs H Q => ∃ a n, xs = [V.ref a] ∧ H a = some (SetN a n) ∧ n ≤ 100 ∧ Q (.int n) H) := by
  intro pins s σ H xs us Q I r ⟨a, n, ex, ha, hl, q⟩
  subst ex
  cases r with
  | cons r1 r2 =>
    cases r1
    cases r2
    obtain ⟨o, es, ep, tb, at0, hex, hd, hf, hn⟩ := (I.hok a _ ha).1
    exact call_len_set at0 hex hd hf (by omega) ⟨.int n, H, I.tok _, ⟨_, by rw [hn]⟩, q⟩
end
end Dv

namespace Dv
open PySem PySem.Spec L2

def RX (K : PySem.W.Frag) (mg : Str → Option Value) (Z : Zn) (H : Hp) (cls : Value) (dd : Option Addr) (x : Xc) : Prop :=
  ∃ C, mg x.cls = some (.ref C) ∧ cls = .ref C ∧ ∃ da fs, dd = some da ∧ Z da ∧ H da = some (.xd fs) ∧ Paired (fun (p : Str × V) (q : Str × D) => p.1 = q.1 ∧ R K Z H p.2 q.2) fs x.fs

/-- what follows an evaluation: Rel ties the value to the datum -/
def Aft (K : PySem.W.Frag) (mg : Str → Option Value) (W : WX) (e : Ent) (Z : Zn) (H : Hp) (σ : L2.St) {α β : Type} (r : Res α) (Rel : Zn → Hp → Sto → β → α → Prop) (Q : β → Hp → Prop) : Prop :=
  match r with
  | .ok a S' => ∀ v Z' H', Step Z H Z' H' → SR K e Z' H' σ S' → Rel Z' H' S' v a → Q v H'
  | .exc x S' => ∀ cls dd Z' H', Step Z H Z' H' → SR K e Z' H' σ S' → RX K mg Z' H' cls dd x → W cls dd σ H'
  | .bad => False
def Res.bind {α β : Type} (r : Res α) (g : α → Sto → Res β) : Res β := match r with
  | .ok a S => g a S
  | .exc x S => .exc x S
  | .bad => .bad
def Res.of {α : Type} (o : Option α) (S : Sto) : Res α := match o with
  | some a => .ok a S
  | none => .bad
section
variable {K : PySem.W.Frag} {mg : Str → Option Value} {W : WX} {e : Ent} {Z Z1 : Zn} {H H1 : Hp} {σ : L2.St} {α β γ δ : Type}
theorem Aft.step {r : Res α} {Rel : Zn → Hp → Sto → β → α → Prop} {Q : β → Hp → Prop} (s : Step Z H Z1 H1) (h : Aft K mg W e Z H σ r Rel Q) : Aft K mg W e Z1 H1 σ r Rel Q := by
  cases r with
  | ok a S => exact fun v Z' H' s' => h v Z' H' (s.trans s')
  | exc x S => exact fun c d Z' H' s' => h c d Z' H' (s.trans s')
  | bad => exact h
theorem Aft.mono {r : Res α} {Rel : Zn → Hp → Sto → β → α → Prop} {Q Q' : β → Hp → Prop} (h : Aft K mg W e Z H σ r Rel Q) (hq : ∀ v H, Q v H → Q' v H) : Aft K mg W e Z H σ r Rel Q' := by
  cases r with
  | ok a S => exact fun v Z' H' s' sr rl => hq _ _ (h v Z' H' s' sr rl)
  | exc x S => exact h
  | bad => exact h
theorem Aft.bind {r : Res α} {g : α → Sto → Res γ} {Rel : Zn → Hp → Sto → β → α → Prop} {Rel2 : Zn → Hp → Sto → δ → γ → Prop} {Q : δ → Hp → Prop} (h : Aft K mg W e Z H σ (r.bind g) Rel2 Q) :
    Aft K mg W e Z H σ r Rel fun v H1 => ∃ Z1 a S1, r = .ok a S1 ∧ Step Z H Z1 H1 ∧ SR K e Z1 H1 σ S1 ∧ Rel Z1 H1 S1 v a ∧ Aft K mg W e Z1 H1 σ (g a S1) Rel2 Q := by
  cases r with
  | ok a S => exact fun v Z' H' s' sr rl => ⟨Z', a, S, rfl, s', sr, rl, Aft.step s' h⟩
  | exc x S => exact h
  | bad => exact h
theorem Aft.of {o : Option α} {S : Sto} {Rel : Zn → Hp → Sto → β → α → Prop} {Q : β → Hp → Prop} (h : Aft K mg W e Z H σ (Res.of o S) Rel Q) :
    ∃ a, o = some a ∧ ∀ v Z' H', Step Z H Z' H' → SR K e Z' H' σ S → Rel Z' H' S v a → Q v H' := by
  cases o with
  | none => exact h.elim
  | some a => exact ⟨a, rfl, h⟩
end

/-- the relations -/
abbrev RelD (K : PySem.W.Frag) : Zn → Hp → Sto → V → D → Prop := fun Z H _ v d => R K Z H v d
abbrev RelDs (K : PySem.W.Frag) : Zn → Hp → Sto → List V → List D → Prop := fun Z H _ v d => Rs K Z H v d
abbrev RelB : Zn → Hp → Sto → Bool → Bool → Prop := fun _ _ _ v d => v = d
/-- a new object of its own -/
def RelF (K : PySem.W.Frag) (e : Ent) (σ : L2.St) : Zn → Hp → Sto → V → Ow → Prop := fun Z H S v o =>
  ∃ p, v = V.ref p ∧ ¬ Z p ∧ OwnAt K e.T Z H p o ∧ e.H p = none ∧ (∀ (j : Nat) o', S[j]? = some (.own o') → σ[j]? ≠ some (some (V.ref p))) ∧ e.P p = none
/-- a tuple of two data and of an object of its own -/
structure Tri (K : PySem.W.Frag) (e : Ent) (Z : Zn) (H : Hp) (v : V) (a b : D) (o : Ow) (p q : Addr) (u1 u2 : V) : Prop where
  v : v = V.ref p
  p : H p = some (.tup [u1, u2, V.ref q])
  a : R K Z H u1 a
  b : R K Z H u2 b
  nz : ¬ Z q
  ow : OwnAt K e.T Z H q o
  eh : e.H q = none
/-- the same, that no slot names -/
def RelT (K : PySem.W.Frag) (e : Ent) (σ : L2.St) : Zn → Hp → Sto → V → D × D × Ow → Prop := fun Z H S v t =>
  ∃ p q u1 u2, Tri K e Z H v t.1 t.2.1 t.2.2 p q u1 u2 ∧ (∀ (j : Nat) o', S[j]? = some (.own o') → σ[j]? ≠ some (some (V.ref q))) ∧ e.P q = none
def tT (K : PySem.W.Frag) (mg : Str → Option Value) (W : WX) (e : Ent) (f : Sto → Res (D × D × Ow)) : TE := fun σ H Q => ∃ Z S, SR K e Z H σ S ∧ Aft K mg W e Z H σ (f S) (RelT K e σ) Q
def tE (K : PySem.W.Frag) (mg : Str → Option Value) (W : WX) (e : Ent) (f : Sto → Res D) : TE := fun σ H Q => ∃ Z S, SR K e Z H σ S ∧ Aft K mg W e Z H σ (f S) (RelD K) Q
def tA (K : PySem.W.Frag) (mg : Str → Option Value) (W : WX) (e : Ent) (f : Sto → Res (List D)) : TA := fun σ H Q => ∃ Z S, SR K e Z H σ S ∧ Aft K mg W e Z H σ (f S) (RelDs K) Q
def tB (K : PySem.W.Frag) (mg : Str → Option Value) (W : WX) (e : Ent) (f : Sto → Res Bool) : TT := fun σ H Q => ∃ Z S, SR K e Z H σ S ∧ Aft K mg W e Z H σ (f S) RelB Q
def tF (K : PySem.W.Frag) (mg : Str → Option Value) (W : WX) (e : Ent) (f : Sto → Res Ow) : TE := fun σ H Q => ∃ Z S, SR K e Z H σ S ∧ Aft K mg W e Z H σ (f S) (RelF K e σ) Q

theorem _root_.L2.PE.mono {X : Cx} {x : Expr} {t t' : TE} (h : PE X x t) (m : ∀ σ H Q, t' σ H Q → t σ H Q) : PE X x t' := ⟨fun pins s σ H Q I hw => h.run pins s σ H Q I (m σ H Q hw)⟩
theorem _root_.L2.PT.mono {X : Cx} {x : Expr} {t t' : TT} (h : PT X x t) (m : ∀ σ H Q, t' σ H Q → t σ H Q) : PT X x t' := ⟨fun pins s σ H Q I hw => h.run pins s σ H Q I (m σ H Q hw)⟩
theorem _root_.L2.PA.mono {X : Cx} {x : List Expr} {t t' : TA} (h : PA X x t) (m : ∀ σ H Q, t' σ H Q → t σ H Q) : PA X x t' := ⟨fun pos pins s σ H Q I hw => h.run pos pins s σ H Q I (m σ H Q hw)⟩
theorem _root_.L2.PS.mono {X : Cx} {x : Stmt} {t t' : TS} (h : PS X x t) (m : ∀ D σ H, t' D σ H → t D σ H) : PS X x t' := ⟨fun pins s σ H D I hw => h.run pins s σ H D I (m D σ H hw)⟩
theorem _root_.L2.PSs.mono {X : Cx} {x : List Stmt} {t t' : TS} (h : PSs X x t) (m : ∀ D σ H, t' D σ H → t D σ H) : PSs X x t' := ⟨fun pins s σ H D I hw => h.run pins s σ H D I (m D σ H hw)⟩

/-! ### operators, by data -/
/-- what an operator does on data: r asks no more than this -/
def OpD (K : PySem.W.Frag) (r : R2) (g : D → D → Option D) : Prop := ∀ (Z : Zn) (H : Hp) (x y : V) (d1 d2 d : D) (Q : VK), (∀ a, Z a → H a ≠ none) → R K Z H x d1 → R K Z H y d2 → g d1 d2 = some d →
  (∀ v Z' H', Grow Z H Z' H' → R K Z' H' v d → Q v H') → r x y H Q
def UnD (K : PySem.W.Frag) (r : V → Hp → VK → Prop) (g : D → Option D) : Prop := ∀ (Z : Zn) (H : Hp) (x : V) (d1 d : D) (Q : VK), (∀ a, Z a → H a ≠ none) → R K Z H x d1 → g d1 = some d →
  (∀ v Z' H', Grow Z H Z' H' → R K Z' H' v d → Q v H') → r x H Q
/-- the same for what makes a list of its own -/
def OpF (K : PySem.W.Frag) (r : R2) (g : D → D → Option (List D)) : Prop := ∀ (Z : Zn) (H : Hp) (x y : V) (d1 d2 : D) (ds : List D) (Q : VK), (∀ a, Z a → H a ≠ none) → R K Z H x d1 → R K Z H y d2 → g d1 d2 = some ds →
  (∀ p xs, H p = none → Rs K Z H xs ds → Q (V.ref p) (upd H p (.lst xs))) → r x y H Q
def UnF (K : PySem.W.Frag) (r : V → Hp → VK → Prop) (g : D → Option (List D)) : Prop := ∀ (Z : Zn) (H : Hp) (x : V) (d1 : D) (ds : List D) (Q : VK), (∀ a, Z a → H a ≠ none) → R K Z H x d1 → g d1 = some ds →
  (∀ p xs, H p = none → Rs K Z H xs ds → Q (V.ref p) (upd H p (.lst xs))) → r x H Q

section
variable {X : Cx} {W : WX} {e : Ent} {fa fb fc : Sto → Res D} {a b c : Expr} {pos : Pos}
theorem tOp_of {r : R2} {g : D → D → Option D} (hg : OpD X.K r g) {σ : L2.St} {H : Hp} {Q : VK} (h : tE X.K X.mg W e (fun S => (fa S).bind fun d1 S1 => (fb S1).bind fun d2 S2 => Res.of (g d1 d2) S2) σ H Q) :
    tOp r (tE X.K X.mg W e fa) (tE X.K X.mg W e fb) σ H Q := by
  obtain ⟨Z, S, s, h⟩ := h
  refine ⟨Z, S, s, (Aft.bind (Rel := RelD X.K) h).mono fun v1 H1 ⟨Z1, d1, S1, _, st1, s1, r1, h1⟩ => ⟨Z1, S1, s1, (Aft.bind (Rel := RelD X.K) h1).mono fun v2 H2 ⟨Z2, d2, S2, _, st2, s2, r2, h2⟩ => ?_⟩⟩
  obtain ⟨d, hd, h3⟩ := Aft.of h2
  exact hg Z2 H2 v1 v2 d1 d2 d Q s2.zi (R.step st2 r1) r2 hd fun v Z' H' gr rv => h3 v Z' H' gr.step (s2.grow gr) rv
theorem de_bin {op : Operator} {r : R2} {g : D → D → Option D} (ho : OpR X (binaryOp op) r) (hg : OpD X.K r g) (ha : PE X a (tE X.K X.mg W e fa)) (hb : PE X b (tE X.K X.mg W e fb)) :
    PE X (.BinOp a op b pos) (tE X.K X.mg W e fun S => (fa S).bind fun d1 S1 => (fb S1).bind fun d2 S2 => Res.of (g d1 d2) S2) :=
  (pe_op ho ha hb).mono fun σ H Q h => tOp_of hg h
theorem de_cmp {op : CmpOp} {r : R2} {g : D → D → Option D} (ho : OpR X (compareOp op) r) (hg : OpD X.K r g) (ha : PE X a (tE X.K X.mg W e fa)) (hb : PE X b (tE X.K X.mg W e fb)) (hm : behindInMarks op b = false) :
    PE X (.Compare a [op] [b] pos) (tE X.K X.mg W e fun S => (fa S).bind fun d1 S1 => (fb S1).bind fun d2 S2 => Res.of (g d1 d2) S2) :=
  (pe_cmpR ho ha hb hm).mono fun σ H Q h => tOp_of hg h
theorem de_ix {r : R2} {g : D → D → Option D} (ho : IxR X r) (hg : OpD X.K r g) (ha : PE X a (tE X.K X.mg W e fa)) (hb : PE X b (tE X.K X.mg W e fb)) (hs : PlainIx b) :
    PE X (.Subscript a b pos) (tE X.K X.mg W e fun S => (fa S).bind fun d1 S1 => (fb S1).bind fun d2 S2 => Res.of (g d1 d2) S2) :=
  (pe_ix ho ha hb hs).mono fun σ H Q h => tOp_of hg h
theorem de_un {op : UnaryOp} {r : V → Hp → VK → Prop} {g : D → Option D} (ho : UnR X (unaryOp op) r) (hg : UnD X.K r g) (ha : PE X a (tE X.K X.mg W e fa)) :
    PE X (.UnaryOp op a pos) (tE X.K X.mg W e fun S => (fa S).bind fun d1 S1 => Res.of (g d1) S1) := by
  refine (pe_un ho ha).mono fun σ H Q ⟨Z, S, s, h⟩ => ?_
  refine ⟨Z, S, s, (Aft.bind (Rel := RelD X.K) h).mono fun v1 H1 ⟨Z1, d1, S1, _, st1, s1, r1, h1⟩ => ?_⟩
  obtain ⟨d, hd, h3⟩ := Aft.of h1
  exact hg Z1 H1 v1 d1 d Q s1.zi r1 hd fun v Z' H' gr rv => h3 v Z' H' gr.step (s1.grow gr) rv
/-- a made list, frozen at once -/
theorem OpF.d {K : PySem.W.Frag} {r : R2} {g : D → D → Option (List D)} (h : OpF K r g) : OpD K r fun a b => (g a b).map .list := by
  intro Z H x y d1 d2 d Q zi r1 r2 hg hq
  dsimp only at hg
  cases q : g d1 d2 with
  | none => rw [q] at hg; cases hg
  | some ds =>
    rw [q] at hg
    cases hg
    exact h Z H x y d1 d2 ds Q zi r1 r2 q fun p xs hp rs => hq _ (Z.put p) _ (Grow.new zi hp) (.lst Zn.put_self (.inl upd_same) (Rs.step (Grow.new zi hp).step rs))
theorem UnF.d {K : PySem.W.Frag} {r : V → Hp → VK → Prop} {g : D → Option (List D)} (h : UnF K r g) : UnD K r fun a => (g a).map .list := by
  intro Z H x d1 d Q zi r1 hg hq
  dsimp only at hg
  cases q : g d1 with
  | none => rw [q] at hg; cases hg
  | some ds =>
    rw [q] at hg
    cases hg
    exact h Z H x d1 ds Q zi r1 q fun p xs hp rs => hq _ (Z.put p) _ (Grow.new zi hp) (.lst Zn.put_self (.inl upd_same) (Rs.step (Grow.new zi hp).step rs))
/-- a new list is nobody's yet -/
theorem relF_new {Z : Zn} {H : Hp} {σ : L2.St} {S : Sto} {p : Addr} {xs : List V} {ds : List D} (s : SR X.K e Z H σ S) (hp : H p = none) (rs : Rs X.K Z H xs ds) :
    Grow Z H Z (upd H p (.lst xs)) ∧ RelF X.K e σ Z (upd H p (.lst xs)) S (V.ref p) (.lst ds) := by
  have nz : ¬ Z p := fun z => s.zi p z hp
  have g : Grow Z H Z (upd H p (.lst xs)) := ⟨fun _ h => h, fun _ h => .inl h, fun a o h => by rw [upd_ne (ne_of_none h hp)]; exact h, fun a h q => by
    by_cases e : a = p
    · exact nz (e ▸ h)
    · rw [upd_ne e] at q; exact s.zi a h q⟩
  exact ⟨g, p, rfl, nz, ⟨xs, upd_same, Rs.step g.step rs⟩, s.new hp, fun j o' hj => s.newO hp j o' hj, s.newP hp⟩
theorem tOpF_of {r : R2} {g : D → D → Option (List D)} (hg : OpF X.K r g) {σ : L2.St} {H : Hp} {Q : VK} (h : tF X.K X.mg W e (fun S => (fa S).bind fun d1 S1 => (fb S1).bind fun d2 S2 => Res.of ((g d1 d2).map Ow.lst) S2) σ H Q) :
    tOp r (tE X.K X.mg W e fa) (tE X.K X.mg W e fb) σ H Q := by
  obtain ⟨Z, S, s, h⟩ := h
  refine ⟨Z, S, s, (Aft.bind (Rel := RelD X.K) h).mono fun v1 H1 ⟨Z1, d1, S1, _, st1, s1, r1, h1⟩ => ⟨Z1, S1, s1, (Aft.bind (Rel := RelD X.K) h1).mono fun v2 H2 ⟨Z2, d2, S2, _, st2, s2, r2, h2⟩ => ?_⟩⟩
  obtain ⟨o, ho, h3⟩ := Aft.of h2
  cases q : g d1 d2 with
  | none => rw [q] at ho; cases ho
  | some ds =>
    rw [q] at ho
    cases ho
    refine hg Z2 H2 v1 v2 d1 d2 ds Q s2.zi (R.step st2 r1) r2 q fun p xs hp rs => ?_
    obtain ⟨gr, rf⟩ := relF_new s2 hp rs
    exact h3 _ Z2 _ gr.step (s2.grow gr) rf
/-- a frozen list from one of its own -/
theorem tE_of_tF {f : Sto → Res Ow} {σ : L2.St} {H : Hp} {Q : VK} (h : tE X.K X.mg W e (fun S => (f S).bind fun o S1 => if o.isLst then .ok o.datum S1 else .bad) σ H Q) : tF X.K X.mg W e f σ H Q := by
  obtain ⟨Z, S, s, h⟩ := h
  refine ⟨Z, S, s, (Aft.bind (Rel := RelF X.K e σ) h).mono fun v1 H1 ⟨Z1, o, S1, _, st1, s1, r1, h1⟩ => ?_⟩
  obtain ⟨p, rfl, nz, ow, eh, nq, np⟩ := r1
  cases hl : o.isLst with
  | false => rw [hl, if_neg Bool.false_ne_true] at h1; exact h1.elim
  | true =>
    rw [hl, if_pos rfl] at h1
    exact h1 _ (Z1.put p) H1 ⟨fun a h => .inl h, fun _ _ _ h => h⟩ (s1.put ow.there eh nq np) (ow.r hl)
end
end Dv

namespace Dv
open PySem PySem.Spec L2

/-! ### dicts of one's own: keys that are numbers and texts, or tuples of them -/
def sameK (a b : D) : Bool := match nkOf a, nkOf b with
  | some x, some y => x.beq y
  | _, _ => false
def getKV (kvs : List (D × D)) (k : D) : Option D := (kvs.find? fun p => sameK p.1 k).map (·.2)
def putKV (kvs : List (D × D)) (k d : D) : List (D × D) := if (kvs.any fun p => sameK p.1 k) = true then kvs.map (fun p => if sameK p.1 k = true then (p.1, d) else p) else kvs ++ [(k, d)]
/-- may it be asked of these keys, or put to them? -/
def keyOk (kvs : List (D × D)) (k : D) : Bool := ((kOf k).isSome && kvs.all fun p => (kOf p.1).isSome) || ((ktOf k).isSome && kvs.all fun p => (ktOf p.1).isSome)

def keyN : L2.Key → NestedKey
  | .inl i => .num i
  | .inr x => .text x
theorem kOf_nk {d : D} {k : L2.Key} (h : kOf d = some k) : nkOf d = some (keyN k) := by
  unfold kOf at h
  split at h
  · cases h; rfl
  · cases h; rfl
  · cases h
theorem ktOf_nk {d : D} {k : NestedKey} (h : ktOf d = some k) : nkOf d = some k ∧ k.depth ≤ 8 ∧ kOf d = none := by
  unfold ktOf at h
  split at h
  · rename_i ds
    cases q : nkOf (.tuple ds) with
    | none => rw [q] at h; cases h
    | some x =>
      rw [q, Option.bind_some] at h
      split at h
      · cases h; exact ⟨rfl, by assumption, rfl⟩
      · cases h
  · cases h
mutual
theorem nk_inj : ∀ (a b : D) (k : NestedKey), nkOf a = some k → nkOf b = some k → a = b
  | .int i, b, k, h1, h2 => by
    cases h1
    cases b with
    | int j => cases h2; rfl
    | str y => cases h2
    | tuple es => simp only [nkOf] at h2; cases q : nksOf es with | none => rw [q] at h2; cases h2 | some z => rw [q] at h2; cases h2
    | _ => cases h2
  | .str x, b, k, h1, h2 => by
    cases h1
    cases b with
    | int j => cases h2
    | str y => cases h2; rfl
    | tuple es => simp only [nkOf] at h2; cases q : nksOf es with | none => rw [q] at h2; cases h2 | some z => rw [q] at h2; cases h2
    | _ => cases h2
  | .tuple ds, b, k, h1, h2 => by
    simp only [nkOf] at h1
    cases q : nksOf ds with
    | none => rw [q] at h1; cases h1
    | some z =>
      rw [q] at h1
      cases h1
      cases b with
      | int j => cases h2
      | str y => cases h2
      | tuple es =>
        simp only [nkOf] at h2
        cases q2 : nksOf es with
        | none => rw [q2] at h2; cases h2
        | some z2 =>
          rw [q2] at h2
          cases h2
          rw [nks_inj ds es z q q2]
      | _ => cases h2
  | .none, _, _, h, _ => by cases h
  | .bool _, _, _, h, _ => by cases h
  | .list _, _, _, h, _ => by cases h
  | .dict _, _, _, h, _ => by cases h
theorem nks_inj : ∀ (a b : List D) (k : List NestedKey), nksOf a = some k → nksOf b = some k → a = b
  | [], b, k, h1, h2 => by
    cases h1
    cases b with
    | nil => rfl
    | cons e es =>
      simp only [nksOf] at h2
      cases q : nkOf e with
      | none => rw [q] at h2; cases h2
      | some z =>
        rw [q, Option.bind_some] at h2
        cases q2 : nksOf es with
        | none => rw [q2] at h2; cases h2
        | some z2 => rw [q2] at h2; cases h2
  | d :: ds, b, k, h1, h2 => by
    simp only [nksOf] at h1
    cases q : nkOf d with
    | none => rw [q] at h1; cases h1
    | some z =>
      rw [q, Option.bind_some] at h1
      cases q2 : nksOf ds with
      | none => rw [q2] at h1; cases h1
      | some z2 =>
        rw [q2] at h1
        cases h1
        cases b with
        | nil => cases h2
        | cons e es =>
          simp only [nksOf] at h2
          cases r : nkOf e with
          | none => rw [r] at h2; cases h2
          | some y =>
            rw [r, Option.bind_some] at h2
            cases r2 : nksOf es with
            | none => rw [r2] at h2; cases h2
            | some y2 =>
              rw [r2] at h2
              simp only [Option.map_some, Option.some.injEq, List.cons.injEq] at h2
              obtain ⟨rfl, rfl⟩ := h2
              rw [nk_inj d e y q r, nks_inj ds es y2 q2 r2]
end
theorem sameK_iff {a b : D} {k : NestedKey} (h : nkOf a = some k) : sameK a b = true ↔ a = b := by
  unfold sameK
  rw [h]
  constructor
  · intro e
    cases q : nkOf b with
    | none => rw [q] at e; cases e
    | some y =>
      rw [q] at e
      have : k = y := NestedKey.eq_of_beq k y e
      subst this
      exact nk_inj a b k h q
  · rintro rfl
    rw [h]
    exact NestedKey.beq_self k
theorem sameK_key {a b : D} {x y : NestedKey} (ha : nkOf a = some x) (hb : nkOf b = some y) : sameK a b = decide (x = y) := by
  unfold sameK
  rw [ha, hb]
  exact (NestedKey.decide_eq x y).symm
section
variable {X : Cx} {pins : List (Addr × Obj)} {σ : L2.St} {H : Hp} {s : Shared} {Z : Zn}
mutual
theorem nk_is (I : Inv X pins σ H s) : ∀ (d : D) (k : NestedKey) (v : V) (u : Value), nkOf d = some k → R X.K Z H v d → RelV v u → NestedIs s.heap k u
  | .int i, k, v, u, h, r, rv => by
    cases h
    obtain rfl := r.int_inv
    obtain ⟨t, rfl⟩ := rv
    exact .int i t
  | .str x, k, v, u, h, r, rv => by
    cases h
    obtain rfl := r.str_inv
    obtain ⟨t, rfl⟩ := rv
    exact .text x t
  | .tuple ds, k, v, u, h, r, rv => by
    simp only [nkOf] at h
    cases q : nksOf ds with
    | none => rw [q] at h; cases h
    | some ks =>
      rw [q] at h
      cases h
      obtain ⟨a, xs, rfl, ha, rs⟩ := r.tup_inv
      cases rv
      obtain ⟨its, vs, ⟨o, ho, hc, n, hd⟩, _⟩ := I.tuple ha
      exact .tup ho hc hd (nks_is I ds ks xs its q rs vs)
  | .none, _, _, _, h, _, _ => by cases h
  | .bool _, _, _, _, h, _, _ => by cases h
  | .list _, _, _, _, h, _, _ => by cases h
  | .dict _, _, _, _, h, _, _ => by cases h
theorem nks_is (I : Inv X pins σ H s) : ∀ (ds : List D) (ks : List NestedKey) (vs : List V) (us : List Value), nksOf ds = some ks → Rs X.K Z H vs ds → Vals vs us → NestedAll s.heap ks us
  | [], ks, _, _, h, rs, rv => by
    cases h
    cases rs
    cases rv
    exact .nil
  | d :: ds, ks, _, _, h, rs, rv => by
    simp only [nksOf] at h
    cases q : nkOf d with
    | none => rw [q] at h; cases h
    | some k =>
      rw [q, Option.bind_some] at h
      cases q2 : nksOf ds with
      | none => rw [q2] at h; cases h
      | some ks =>
        rw [q2] at h
        cases h
        cases rs with
        | cons r rs =>
          cases rv with
          | cons v vs => exact .cons (nk_is I d k _ _ q r v) (nks_is I ds ks _ _ q2 rs vs)
end
/-- a tuple as a key, in the heap -/
theorem kt_is (I : Inv X pins σ H s) {d : D} {k : NestedKey} {v : V} {u : Value} (h : ktOf d = some k) (r : R X.K Z H v d) (rv : RelV v u) : ∃ b, v = V.ref b ∧ u = .ref b ∧ (nestedKind X.prog X.w).is s.heap k b := by
  obtain ⟨h1, h2, _⟩ := ktOf_nk h
  have i := nk_is I d k v u h1 r rv
  cases d with
  | tuple ds =>
    obtain ⟨a, xs, rfl, _, _⟩ := r.tup_inv
    cases rv
    exact ⟨a, rfl, rfl, i, h2⟩
  | _ => cases h
theorem kv_is {d : D} {k : L2.Key} {K : PySem.W.Frag} {v : V} (h : kOf d = some k) (r : R K Z H v d) : v = kV k := by
  unfold kOf at h
  split at h
  · cases h; exact r.int_inv
  · cases h; exact r.str_inv
  · cases h
/-- the entries of a dict with tuples for keys, from what is known of them -/
theorem dictH_of (I : Inv X pins σ H s) {a : Addr} {xs : Xs} {kvs : List (D × D)} (hr : rawD X.w a xs s.heap) (he : EnX X.K Z H xs kvs) : s.heap.DictOfH (nestedKind X.prog X.w) a xs := by
  obtain ⟨_, _, nd, o, es, ep, h1, h2, h3, h4⟩ := hr
  refine ⟨o, es, ep, h1, h2, h3, h4, ?_, nd⟩
  have : ∀ {xs : Xs} {kvs : List (D × D)}, EnX X.K Z H xs kvs → ∀ x ∈ xs, (nestedKind X.prog X.w).is s.heap x.1 x.2.1 := by
    intro xs kvs h
    induction h with
    | nil => intro x hx; cases hx
    | cons q _ ih =>
      intro x hx
      rcases List.mem_cons.mp hx with rfl | hx
      · obtain ⟨b, e1, e2, e3⟩ := kt_is I q.1 q.2.1 rfl
        cases e2
        exact e3
      · exact ih x hx
  exact this he
/-- a dict that is read, be it that somebody walks over it -/
def DctSee (K : PySem.W.Frag) (w : World) (Z : Zn) (H : Hp) (a : Addr) (kvs : List (D × D)) : Prop :=
  (∃ es, Rd H a (.dK es) ∧ Ens K Z H kOf es kvs) ∨ ∃ xs, Rd H a (.ext (rawD w a xs)) ∧ EnX K Z H xs kvs ∧ kvs ≠ []
theorem DctAt.see {K : PySem.W.Frag} {w : World} {a : Addr} {kvs : List (D × D)} (h : DctAt K w Z H a kvs) : DctSee K w Z H a kvs := by
  rcases h with ⟨es, e, q⟩ | ⟨xs, e, q⟩
  · exact .inl ⟨es, .inl e, q⟩
  · exact .inr ⟨xs, .inl e, q⟩
theorem DctW.see {K : PySem.W.Frag} {w : World} {a : Addr} {kvs : List (D × D)} (h : DctW K w Z H a kvs) : DctSee K w Z H a kvs := by
  rcases h with ⟨o, es, e, q⟩ | ⟨o, xs, e, q⟩
  · exact .inl ⟨es, .inr ⟨o, e⟩, q⟩
  · exact .inr ⟨xs, .inr ⟨o, e⟩, q⟩
theorem DctAt.mut {K : PySem.W.Frag} {w : World} {a : Addr} {kvs : List (D × D)} (h : DctAt K w Z H a kvs) : Mut (H a) := by
  rcases h with ⟨es, e, q⟩ | ⟨xs, e, q⟩ <;> (rw [e]; exact True.intro)
theorem mut_rd {a : Addr} {u : HO} (m : Mut (H a)) (h : Rd H a u) : H a = some u := by
  rcases h with h | ⟨o, h⟩
  · exact h
  · rw [h] at m
    exact m.elim
/-- how a dict of one's own stands where it is asked for a key -/
theorem dct_two (I : Inv X pins σ H s) {a : Addr} {kvs : List (D × D)} {kd : D} {y : V} {u : Value} (hd : DctSee X.K X.w Z H a kvs) (hk : keyOk kvs kd = true) (r : R X.K Z H y kd) (ry : RelV y u) :
    (∃ es k, Rd H a (.dK es) ∧ Ens X.K Z H kOf es kvs ∧ kOf kd = some k ∧ y = kV k) ∨
    ∃ xs k b, s.heap.DictOfH (nestedKind X.prog X.w) a xs ∧ EnX X.K Z H xs kvs ∧ ktOf kd = some k ∧ y = V.ref b ∧ u = .ref b ∧ (nestedKind X.prog X.w).is s.heap k b ∧ (a == sysModules) = false ∧ xs.length ≤ sizeLine := by
  unfold keyOk at hk
  simp only [Bool.or_eq_true, Bool.and_eq_true] at hk
  rcases hk with ⟨h1, h2⟩ | ⟨h1, h2⟩
  · obtain ⟨k, hk⟩ := Option.isSome_iff_exists.mp h1
    left
    rcases hd with ⟨es, e, q⟩ | ⟨xs, e, q⟩
    · exact ⟨es, k, e, q, hk, kv_is hk r⟩
    · exfalso
      obtain ⟨q, ne⟩ := q
      cases q with
      | nil => exact ne rfl
      | cons q _ =>
        have := h2
        simp only [List.all_cons, Bool.and_eq_true] at this
        rw [(ktOf_nk q.1).2.2] at this
        cases this.1
  · obtain ⟨k, hk⟩ := Option.isSome_iff_exists.mp h1
    obtain ⟨b, e1, e2, e3⟩ := kt_is I hk r ry
    right
    rcases hd with ⟨es, e, q⟩ | ⟨xs, e, q⟩
    · cases q with
      | nil =>
        obtain ⟨_, hs, vs, kv, o, es, ep, g1, g2, g3, _, g5, _⟩ := dk_rd I.hok e
        cases kv
        have ee : es.toList = [] := by cases g5' : es.toList with
          | nil => rfl
          | cons _ _ => rw [g5'] at g5; cases g5
        refine ⟨[], k, b, ⟨o, es, ep, g1, g2, g3, by rw [ee]; rfl, fun x hx => (by cases hx), .nil⟩, .nil, hk, e1, e2, e3, hs, Nat.zero_le _⟩
      | cons q _ =>
        have := h2
        simp only [List.all_cons, Bool.and_eq_true] at this
        have z := this.1
        obtain ⟨x, hx⟩ := Option.isSome_iff_exists.mp z
        rw [(ktOf_nk hx).2.2] at q
        cases q.1
    · have ob : rawD X.w a xs s.heap := (show ObjOk X.prog X.w H s.heap a (.ext (rawD X.w a xs)) from rd_of I.hok e).1
      exact ⟨xs, k, b, dictH_of I ob q.1, q.1, hk, e1, e2, e3, ob.1, ob.2.1⟩
/-! looking up -/
theorem look_k {K : PySem.W.Frag} {es : List (L2.Key × V)} {kvs : List (D × D)} {kd : D} {k : L2.Key} (hk : kOf kd = some k) (q : Ens K Z H kOf es kvs) :
    match getKV kvs kd with
    | some d => ∃ v, valV es k = some v ∧ R K Z H v d
    | none => valV es k = none := by
  induction q with
  | nil => rfl
  | @cons p c ps cs h t ih =>
    obtain ⟨h1, h2⟩ := h
    by_cases e : p.1 = k
    · have sk : sameK c.1 kd = true := by
        rw [sameK_key (kOf_nk h1) (kOf_nk hk), e]
        exact decide_eq_true rfl
      have g : getKV (c :: cs) kd = some c.2 := by simp [getKV, List.find?_cons, sk]
      rw [g, valV_pos e]
      exact ⟨p.2, rfl, h2⟩
    · have sk : sameK c.1 kd = false := by
        cases z : sameK c.1 kd with
        | false => rfl
        | true =>
          have := (sameK_iff (kOf_nk h1)).mp z
          rw [this, hk] at h1
          cases h1
          exact absurd rfl e
      have g : getKV (c :: cs) kd = getKV cs kd := by simp [getKV, List.find?_cons, sk]
      rw [g, valV_neg e]
      exact ih
theorem look_t {K : PySem.W.Frag} {xs : Xs} {kvs : List (D × D)} {kd : D} {k : NestedKey} (hk : ktOf kd = some k) (q : EnX K Z H xs kvs) :
    match getKV kvs kd with
    | some d => ∃ p v, atKey xs k = some p ∧ RelV v p.2 ∧ R K Z H v d
    | none => atKey xs k = none := by
  induction q with
  | nil => rfl
  | @cons p c ps cs h t ih =>
    obtain ⟨h1, h2, v, h3, h4⟩ := h
    by_cases e : p.1 = k
    · have sk : sameK c.1 kd = true := by
        rw [sameK_key (ktOf_nk h1).1 (ktOf_nk hk).1, e]
        exact decide_eq_true rfl
      have g : getKV (c :: cs) kd = some c.2 := by simp [getKV, List.find?_cons, sk]
      rw [g]
      exact ⟨p.2, v, by simp [atKey, List.find?_cons, e], h3, h4⟩
    · have sk : sameK c.1 kd = false := by
        cases z : sameK c.1 kd with
        | false => rfl
        | true =>
          have := (sameK_iff (ktOf_nk h1).1).mp z
          rw [this, hk] at h1
          cases h1
          exact absurd rfl e
      have g : getKV (c :: cs) kd = getKV cs kd := by simp [getKV, List.find?_cons, sk]
      have g2 : atKey (p :: ps) k = atKey ps k := by simp [atKey, List.find?_cons, e]
      rw [g, g2]
      exact ih
/-! d[k], k in d, d.get(k, x), d[k] = v, by values -/
def rGetD (K : PySem.W.Frag) (w : World) : R2 := fun x y H Q => ∃ a Z kvs kd d, x = V.ref a ∧ DctSee K w Z H a kvs ∧ R K Z H y kd ∧ keyOk kvs kd = true ∧ getKV kvs kd = some d ∧ ∀ v, R K Z H v d → Q v H
theorem ix_getD (hu : X.A.units + 80 < cLine) : IxR X (rGetD X.K X.w) := by
  intro value slice pins s σ H x y v u Q I rx ry h hs
  obtain ⟨a, Z, kvs, kd, d, rfl, hd, r, hk, hg, q⟩ := h
  cases rx
  rcases dct_two I hd hk r ry with ⟨es, k, e, en, kk, rfl⟩ | ⟨xs, k, b, dh, en, kk, rfl, rfl, ki, _⟩
  · have l := look_k kk en
    rw [hg] at l
    obtain ⟨v, hv, rv⟩ := l
    obtain ⟨_, _, vs, rel, dd⟩ := dk_rd I.hok e
    obtain ⟨w, hw, rw'⟩ := RelO.some_of (v := v) (o := valueAt vs k) (by rw [← hv]; exact rel.val k)
    exact PyProof.Rows.subscriptTail_builtinR (x := w) dd.typeIs PySem.F.slot_dict_getitem.lookup (wpAny_getItem_of (kV_is ry) dd.mapOf hw ⟨rfl, v, H, I.tok _, rw', q v rv⟩) hs
  · have l := look_t kk en
    rw [hg] at l
    obtain ⟨p, v, hp, hv, rv⟩ := l
    exact PyProof.Rows.subscriptTail_builtinR (x := p.2) dh.typeIs PySem.F.slot_dict_getitem.lookup (wpAny_getItem_heap (by show _ + 8 < cLine; simp only [Around.in1]; omega) ki dh hp ⟨rfl, v, H, I.tok _, hv, q v rv⟩) hs
/-- is the key there? -/
def rHasD (K : PySem.W.Frag) (w : World) (neg : Bool) : R2 := fun y x H Q => ∃ a Z kvs kd, x = V.ref a ∧ DctSee K w Z H a kvs ∧ R K Z H y kd ∧ keyOk kvs kd = true ∧ Q (.bl ((getKV kvs kd).isSome != neg)) H
theorem op_hasD (hu : X.A.units + 80 < cLine) (neg : Bool) : OpR X (compareOp (if neg then .NotIn else .In)) (rHasD X.K X.w neg) := by
  intro pins s σ H y x u v Q I ry rx h
  obtain ⟨a, Z, kvs, kd, rfl, hd, r, hk, q⟩ := h
  cases rx
  rcases dct_two I hd hk r ry with ⟨es, k, e, en, kk, rfl⟩ | ⟨xs, k, b, dh, en, kk, rfl, rfl, ki, hm, _⟩
  · have l := look_k kk en
    have lv : (valV es k).isSome = (getKV kvs kd).isSome := by
      cases g : getKV kvs kd with
      | none => rw [g] at l; rw [l]; rfl
      | some d => rw [g] at l; obtain ⟨w, e1, _⟩ := l; rw [e1]; rfl
    cases neg with
    | false =>
      have q' : Q (.bl (valV es k).isSome) H := by rw [lv]; simpa using q
      exact d_in (by omega) I (.inl ⟨es, k, e, rfl, rfl⟩) ry fun s' I' => ⟨.bl _, H, I', rfl, q'⟩
    | true =>
      have q' : Q (.bl (!(valV es k).isSome)) H := by rw [lv]; simpa using q
      exact d_notIn (by omega) I (.inl ⟨es, k, e, rfl, rfl⟩) ry fun s' I' => ⟨.bl _, H, I', rfl, q'⟩
  · have l := look_t kk en
    have lv : (atKey xs k).isSome = (getKV kvs kd).isSome := by
      cases g : getKV kvs kd with
      | none => rw [g] at l; rw [l]; rfl
      | some d => rw [g] at l; obtain ⟨p, w, e1, _⟩ := l; rw [e1]; rfl
    have hr : (nestedKind X.prog X.w).room X.A.in1 := by show _ + 8 < cLine; simp only [Around.in1]; omega
    cases neg with
    | false =>
      have q' : Q (.bl (atKey xs k).isSome) H := by rw [lv]; simpa using q
      exact wpAny_in_heap hr ki hm dh ⟨.bl _, H, I.tok _, rfl, q'⟩
    | true =>
      have q' : Q (.bl (!(atKey xs k).isSome)) H := by rw [lv]; simpa using q
      exact PyProof.Rows.wpAny_notIn_heap hr ki hm dh ⟨.bl _, H, I.tok _, rfl, q'⟩
/-- d.get(k, x) -/
def rOrD (K : PySem.W.Frag) (w : World) : V → List V → Hp → VK → Prop := fun x xs H Q => ∃ a y z Z kvs kd dz, x = V.ref a ∧ xs = [y, z] ∧ DctSee K w Z H a kvs ∧ R K Z H y kd ∧ R K Z H z dz ∧ keyOk kvs kd = true ∧ ∀ v, R K Z H v ((getKV kvs kd).getD dz) → Q v H
theorem mt_getD (hu : X.A.units + 80 < cLine) : MtR X "dict.get" (rOrD X.K X.w) := by
  intro pins s σ H x xs v us Q I rx rxs h
  obtain ⟨a, y, z, Z, kvs, kd, dz, rfl, rfl, hd, r, rz, hk, q⟩ := h
  cases rx
  obtain ⟨u, uz, rfl, ru, ruz⟩ := vals2 rxs
  rcases dct_two I hd hk r ru with ⟨es, k, e, en, kk, rfl⟩ | ⟨xs, k, b, dh, en, kk, rfl, rfl, ki, hm, _⟩
  · have l := look_k kk en
    refine d_get2 (o := valV es k) (d := z) (by omega) I (.inl ⟨es, k, e, rfl, rfl⟩) ru ruz fun w' s' I' rw' => ⟨_, H, I', rw', q _ ?_⟩
    cases g : getKV kvs kd with
    | none => rw [g] at l; rw [l]; exact rz
    | some d => rw [g] at l; obtain ⟨w, e1, e2⟩ := l; rw [e1]; exact e2
  · have l := look_t kk en
    have hr : (nestedKind X.prog X.w).room X.A.in1 := by show _ + 8 < cLine; simp only [Around.in1]; omega
    refine getOr_keyed (kvs := pairsH xs) hr ki hm ⟨xs, dh, rfl⟩ ?_
    rw [valueAt_pairsH]
    cases g : getKV kvs kd with
    | none =>
      rw [g] at l q
      rw [l]
      exact ⟨z, H, I.tok _, ruz, q _ rz⟩
    | some d =>
      rw [g] at l q
      obtain ⟨p, w, e1, e2, e3⟩ := l
      rw [e1]
      exact ⟨w, H, I.tok _, e2, q _ e3⟩
theorem Pd.any2 {α β : Type} {F : α → β → Prop} {t : α → Bool} {t' : β → Bool} (h : ∀ a b, F a b → t a = t' b) : ∀ {xs : List α} {ys : List β}, Paired F xs ys → xs.any t = ys.any t'
  | _, _, .nil => rfl
  | _, _, .cons q r => by rw [List.any_cons, List.any_cons, h _ _ q, Pd.any2 h r]
theorem Pd.map2 {α β α' β' : Type} {F : α → β → Prop} {G : α' → β' → Prop} {f : α → α'} {g : β → β'} (h : ∀ a b, F a b → G (f a) (g b)) : ∀ {xs : List α} {ys : List β}, Paired F xs ys → Paired G (xs.map f) (ys.map g)
  | _, _, .nil => .nil
  | _, _, .cons q r => .cons (h _ _ q) (Pd.map2 h r)
theorem keyN_inj {a b : L2.Key} (e : keyN a = keyN b) : a = b := by
  cases a <;> cases b <;> simp [keyN] at e <;> rw [e]
theorem same_k {c kd : D} {p k : L2.Key} (h : kOf c = some p) (hk : kOf kd = some k) : decide (p = k) = sameK c kd := by
  rw [sameK_key (kOf_nk h) (kOf_nk hk)]
  exact decide_eq_decide.mpr ⟨fun e => by rw [e], keyN_inj⟩
theorem same_t {c kd : D} {p k : NestedKey} (h : ktOf c = some p) (hk : ktOf kd = some k) : decide (p = k) = sameK c kd := (sameK_key (ktOf_nk h).1 (ktOf_nk hk).1).symm
theorem put_k {K : PySem.W.Frag} {es : List (L2.Key × V)} {kvs : List (D × D)} {kd d : D} {k : L2.Key} {v : V} (hk : kOf kd = some k) (rv : R K Z H v d) (q : Ens K Z H kOf es kvs) : Ens K Z H kOf (putK es k v) (putKV kvs kd d) := by
  unfold putK putKV
  rw [Pd.any2 (t' := fun p => sameK p.1 kd) (fun a b h => same_k h.1 hk) q]
  split
  · refine Pd.map2 (fun a b h => ?_) q
    have e := same_k h.1 hk
    by_cases z : a.1 = k
    · rw [if_pos z, if_pos (by rw [← e]; exact decide_eq_true z)]
      exact ⟨h.1, rv⟩
    · rw [if_neg z, if_neg (by rw [← e]; simpa using z)]
      exact h
  · exact Pd.append q (.cons ⟨hk, rv⟩ .nil)
theorem at_any {xs : Xs} {k : NestedKey} : (atKey xs k).isSome = xs.any fun x => decide (x.1 = k) := by
  induction xs with
  | nil => rfl
  | cons x xs ih =>
    by_cases h : x.1 = k
    · simp [atKey, h]
    · have : atKey (x :: xs) k = atKey xs k := by simp [atKey, List.find?_cons, h]
      rw [this, ih, List.any_cons, decide_eq_false h, Bool.false_or]
theorem put_t {K : PySem.W.Frag} {xs : Xs} {kvs : List (D × D)} {kd d : D} {k : NestedKey} {b : Addr} {v : V} {u : Value} (hk : ktOf kd = some k) (rk : R K Z H (.ref b) kd) (ru : RelV v u) (rv : R K Z H v d) (q : EnX K Z H xs kvs) : EnX K Z H (storedH xs k b u) (putKV kvs kd d) := by
  unfold storedH putKV
  rw [at_any, Pd.any2 (t' := fun p => sameK p.1 kd) (fun a b h => same_t h.1 hk) q]
  split
  · refine Pd.map2 (fun a b h => ?_) q
    have e := same_t h.1 hk
    unfold putAt
    by_cases z : a.1 = k
    · rw [if_pos z, if_pos (by rw [← e]; exact decide_eq_true z)]
      exact ⟨h.1, h.2.1, v, ru, rv⟩
    · rw [if_neg z, if_neg (by rw [← e]; simpa using z)]
      exact h
  · exact Pd.append q (.cons ⟨hk, rk, v, ru, rv⟩ .nil)
theorem put_ne {kvs : List (D × D)} {k d : D} : putKV kvs k d ≠ [] := by
  unfold putKV
  split
  · rename_i h
    cases kvs with
    | nil => cases h
    | cons p r => simp
  · simp
theorem putKV_len (kvs : List (D × D)) (k d : D) : (putKV kvs k d).length ≤ kvs.length + 1 := by
  unfold putKV
  split <;> simp
/-- d[k] = v -/
def rPutD (K : PySem.W.Frag) (w : World) : V → V → V → Hp → (Hp → Prop) → Prop := fun x y v H Q => ∃ a Z kvs kd d, x = V.ref a ∧ DctAt K w Z H a kvs ∧ ¬ Z a ∧ R K Z H y kd ∧ R K Z H v d ∧ keyOk kvs kd = true ∧ kvs.length < sizeLine ∧
  ∀ o, DctAt K w Z (upd H a o) a (putKV kvs kd d) → Q (upd H a o)
theorem set_dct (hu : X.A.units + 80 < cLine) : PSet X (rPutD X.K X.w) := by
  intro pins s σ H x y v xv yv u Q I rx ry rv h
  obtain ⟨a, Z, kvs, kd, d, rfl, hd, nz, r, rd, hk, hl, q⟩ := h
  cases rx
  have st : ∀ o, Step Z H Z (upd H a o) := fun o => ⟨fun _ h => h, fun b ob hb h => by rw [upd_ne (fun e : b = a => nz (by rw [← e]; exact hb))]; exact h⟩
  have mu := hd.mut
  rcases dct_two I hd.see hk r ry with ⟨es, k, e, en, kk, rfl⟩ | ⟨xs, k, b, dh, en, kk, rfl, rfl, ki, hm, hz⟩
  · have e := mut_rd mu e
    refine d_setItem (by omega) I (DPut.k e (by rw [en.length]; exact hl)) ry rv fun s' I' => ⟨_, I', q _ (.inl ⟨_, upd_same, ?_⟩)⟩
    exact Ens.step (st _) (put_k kk rd en)
  · have hr : (nestedKind X.prog X.w).room X.A.in1 := by show _ + 8 < cLine; simp only [Around.in1]; omega
    have hl' : xs.length < sizeLine := by rw [en.length]; exact hl
    refine wpAny_setItem_heap (hsz := hz) hr ki dh fun h' dh' hs => ?_
    obtain ⟨o, es, ep, g1, g2, g3, g4, g5, g6⟩ := dh'
    have len : (storedH xs k b u).length ≤ sizeLine := by
      have := (put_t kk r rv rd en).length
      have := putKV_len kvs kd d
      have := en.length
      omega
    have raw : rawD X.w a (storedH xs k b u) h' := ⟨hm, len, g6, o, es, ep, g1, g2, g3, g4⟩
    refine ⟨upd H a (.ext (rawD X.w a (storedH xs k b u))), d_write I mu hs ⟨o, g1⟩ ⟨raw, ⟨o, g1⟩, fun h1 h2 r1 k12 => ?_⟩, q _ (.inr ⟨_, upd_same, ?_, put_ne⟩)⟩
    · obtain ⟨a1, a2, a3, o1, es1, ep1, b1, b2, b3, b4⟩ := r1
      exact ⟨a1, a2, a3, o1, es1, ep1, k12 _ b1, b2, b3, b4⟩
    · exact Pd.imp (fun _ _ q => ⟨q.1, R.step (st _) q.2.1, q.2.2.imp fun _ z => ⟨z.1, R.step (st _) z.2⟩⟩) (put_t kk r rv rd en)
/-- the entries where they stand: keys and values -/
theorem dct_raw (I : Inv X pins σ H s) {a : Addr} {kvs : List (D × D)} (hd : DctSee X.K X.w Z H a kvs) : ∃ es ep, s.heap.DictRaw a es ep ∧ es.size = kvs.length ∧ kvs.length ≤ sizeLine ∧ (a == sysModules) = false ∧
    ∀ (i : Nat) (hi : i < es.size) (hi' : i < kvs.length), (∃ v, RelV v es[i].key ∧ R X.K Z H v kvs[i].1) ∧ ∃ v, RelV v es[i].val ∧ R X.K Z H v kvs[i].2 := by
  rcases hd with ⟨es, e, q⟩ | ⟨xs, e, q, _⟩
  · obtain ⟨hz, hm, vs, kv, dd⟩ := dk_rd I.hok e
    obtain ⟨ra, ep, h1, h2, h3⟩ := dd.raw
    have l1 := q.length
    have l2 := kv.length
    refine ⟨ra, ep, h1, by omega, by omega, hm, fun i hi hi' => ?_⟩
    have ie : i < es.length := by omega
    have iv : i < vs.length := by omega
    have a1 := Pd.at q i ie hi'
    have a2 := Pd.at kv i ie iv
    obtain ⟨b1, b2⟩ := h3 i hi vs[i].1 vs[i].2 (List.getElem?_eq_getElem iv)
    refine ⟨?_, _, ?_, a1.2⟩
    · have ks : keyIs vs[i].1 ra[i].key = true := b1
      rw [← a2.1] at ks
      have kk := a1.1
      rcases keyIs_shape ks with ⟨j, t, ek, ev⟩ | ⟨z, t, ek, ev⟩
      · rw [ek] at kk
        rw [ev]
        refine ⟨.int j, ⟨t, rfl⟩, ?_⟩
        unfold kOf at kk
        split at kk
        · rename_i z; cases kk; rw [z]; exact .int _
        · cases kk
        · cases kk
      · rw [ek] at kk
        rw [ev]
        refine ⟨.str z, ⟨t, rfl⟩, ?_⟩
        unfold kOf at kk
        split at kk
        · cases kk
        · rename_i z; cases kk; rw [z]; exact .str _
        · cases kk
    · rw [b2]; exact a2.2
  · obtain ⟨h1, h2, h3, o, ra, ep, g1, g2, g3, g4⟩ : rawD X.w a xs s.heap := (show ObjOk X.prog X.w H s.heap a (.ext (rawD X.w a xs)) from rd_of I.hok e).1
    have l1 := q.length
    have l2 : ra.size = xs.length := by rw [← Array.length_toList, g4, List.length_map]
    refine ⟨ra, ep, ⟨o, g1, g2, g3⟩, by omega, by omega, h1, fun i hi hi' => ?_⟩
    have ix : i < xs.length := by omega
    have a1 := Pd.at q i ix hi'
    have en : ra[i] = ⟨xs[i].1.hash X.w, .ref xs[i].2.1, xs[i].2.2⟩ := by
      have e1 : ra.toList[i]? = some ra[i] := by simp [hi]
      rw [g4, List.getElem?_map, List.getElem?_eq_getElem ix] at e1
      exact (Option.some.inj e1).symm
    rw [en]
    exact ⟨⟨V.ref xs[i].2.1, rfl, a1.2.1⟩, a1.2.2⟩
/-- list(d) -/
def rListD (K : PySem.W.Frag) (w : World) : List V → Hp → VK → Prop := fun xs H Q => ∃ a Z kvs, xs = [V.ref a] ∧ DctSee K w Z H a kvs ∧ ∀ p ys, H p = none → Rs K Z H ys (kvs.map (·.1)) → Q (V.ref p) (upd H p (.lst ys))
theorem pick_keys {K : PySem.W.Frag} : ∀ {its : List Value} {ds : List D}, its.length = ds.length → (∀ (i : Nat) (h : i < its.length) (h' : i < ds.length), ∃ v, RelV v its[i] ∧ R K Z H v ds[i]) → ∃ ys, Vals ys its ∧ Rs K Z H ys ds
  | [], [], _, _ => ⟨[], .nil, .nil⟩
  | a :: its, d :: ds, hl, h => by
    obtain ⟨v, h1, h2⟩ := h 0 (Nat.succ_pos _) (Nat.succ_pos _)
    obtain ⟨ys, r1, r2⟩ := pick_keys (its := its) (ds := ds) (by simpa using hl) fun i hi hi' => by simpa using h (i + 1) (Nat.succ_lt_succ hi) (Nat.succ_lt_succ hi')
    exact ⟨v :: ys, .cons h1 r1, .cons h2 r2⟩
  | [], _ :: _, hl, _ => by simp at hl
  | _ :: _, [], hl, _ => by simp at hl
theorem cr_listD (hc : X.calm = true) : CallR X (.type "list") (rListD X.K X.w) := by
  intro pins s σ H xs us Q I r h
  obtain ⟨a, Z, kvs, rfl, hd, q⟩ := h
  rw [Vals.ref1 r]
  obtain ⟨es, ep, hr, h1, h2, h3, h4⟩ := dct_raw I hd
  refine PySem.W.kdl_call (PySem.KdlSrc.rawDict (ep := ep) h3) (I.ok.hd hc) hr (by omega) fun h' tk acc' c' k hl hi => ?_
  obtain ⟨i1, i2⟩ := hi
  obtain ⟨ys, r1, r2⟩ := pick_keys (K := X.K) (Z := Z) (H := H) (its := acc'.toList) (ds := kvs.map (·.1)) (by rw [Array.length_toList, List.length_map]; omega) fun i hi hi' => by
    have e1 : acc'[i]? = some acc'.toList[i] := by simp
    obtain ⟨hj, e2⟩ := i2 i _ e1
    have hk : i < kvs.length := by simpa using hi'
    obtain ⟨⟨v, b1, b2⟩, _⟩ := h4 i hj hk
    rw [e2]
    exact ⟨v, b1, by simpa using b2⟩
  have len : ys.length ≤ sizeLine := by rw [r2.length, List.length_map]; omega
  exact ⟨.ref s.heap.objs.size, _, I.laid (t' := tk) k (Nat.le_refl _) (show ObjOk X.prog X.w _ h' _ (.lst ys) from ⟨len, acc'.toList, c', r1, by simpa using hl⟩), rfl, q _ ys (I.hok.fresh (Nat.le_refl _)) r2⟩
end
section
open PySem.Calls PyProof.Rows PySem.W
variable {prog : Program} {w : World} {A : Around} {E : Value → Shared → Prop} {s : Shared}
/-- tuples that are alike, empty ones among them, are told apart by their items in turn -/
theorem lt_tups {ds : List PyData} (hal : AllAlike ds) (ht : ∀ d, d ∈ ds → ∃ xs, d = .tuple xs) (hu : ∀ d, d ∈ ds → A.units + d.depth < cLine) : PyProof.Rows.H.LtAt prog w A s (dataKind s.heap ds) (tuples' false) := by
  intro E x y a b Q kx ky q
  rcases dataKind_inv kx with ⟨p, la, mp, rp, ea⟩
  rcases dataKind_inv ky with ⟨r, lb, mr, rr, eb⟩
  rcases ht p mp with ⟨ps, ep⟩
  rcases ht r mr with ⟨rs, er⟩
  have deep := hu p mp
  have like := hal p mp r mr
  subst ea eb ep er
  have q : Q (dataLt (.tuple ps) (.tuple rs)) s := q
  rw [dataLt_tuple] at q
  rcases rp with _ | _ | _ | _ | _ | ⟨o1, o2, o3, o4⟩ | _
  rcases rr with _ | _ | _ | _ | _ | ⟨w1, w2, w3, w4⟩ | _
  have len1 := SeqAt.ReadsAll.length _ _ _ o4
  have len2 := SeqAt.ReadsAll.length _ _ _ w4
  have lk : alikeAll ps rs = true := by simpa [alike] using like
  have small := Nat.min_le_left (PyData.depthAll ps) (PyData.depthAll rs)
  simp only [PyData.depth] at deep
  exact kat_lt o1 o3 w1 w3 (katLex_alike ps rs 0 _ _ _ _ o4 w4 lk (by omega) (fun z => nomatch z) (by rw [← len1, ← len2, Array.length_toList, Array.length_toList]) q)
theorem sorts_one {vs : List Value} {ds : List PyData} (e : EachIs (fun v d => ∃ as, Reads s.heap v d as) vs ds) (hal : AllAlike ds) (ht : ∀ d, d ∈ ds → ∃ xs, d = .tuple xs) (h1 : vs.length ≤ 1) (hu : ∀ d, d ∈ ds → A.units + d.depth < cLine) : SortsAt prog w A s (dataKind s.heap ds) vs where
  keys := fun v m => let ⟨_, md, _, r⟩ := e.left v m; ⟨_, dataKind_some hal md r⟩
  kind := ⟨_, lt_tups hal ht hu, fun h2 => absurd h2 (by omega)⟩
/-- sorted of what is walked as a dict is -/
theorem sorted_src {β : Type} {R : Value → β → Prop} {enc : β → PyData} {T : String} {r d : Addr} {n : Nat} {P : Nat → Value → Prop} {OK : Heap → Prop} {Q : Value → Shared → Prop} (K : KdlSrc prog w T r d n P OK) (hh : A.handled = none) (hok : OK s.heap) (hn : n ≤ sizeLine)
    (pick : ∀ vs : List Value, vs.length = n → (∀ j v, vs[j]? = some v → P j v) → ∃ bs : List β, EachIs R vs bs ∧ EachIs (fun v b => ∃ as, Reads s.heap v (enc b) as) vs bs ∧ AllAlike (bs.map enc) ∧ (∀ (h' : Heap) (tk : Nat), (∀ b o, s.heap.get? b = some o → h'.get? b = some o) → SortsAt prog w A.in1.in1 { s with heap := h', toks := tk } (dataKind h' (bs.map enc)) vs) ∧
      ∀ out (h1 : Heap) c h' tk, out.length = n → EachIs R out (bs.mergeSort (dataLe false enc)) → (∀ b o, s.heap.get? b = some o → h1.get? b = some o) → (∀ b o, s.heap.get? b = some o → h'.get? b = some o) → h'.get? h1.objs.size = some (seqObj "list" out.toArray c) → Q (.ref h1.objs.size) { s with heap := h', toks := tk }) :
    wpAny (model prog w) A (call (.builtin "sorted") [.ref r]) Q E s := by
  refine call_function_entry_kw kind_sorted plain_sorted entry_sorted (args_sorted1 _) ?_
  unfold Builtin.«sorted»
  refine wpAny_bind (m := checkCount "sorted" 1 1 _) (wpAny_pure ?_)
  refine wpAny_bind (kdu_collect (A := A.in1) K hh hok hn fun h1 tk acc k1 ha => ?_)
  generalize hvs : acc.toList = vs
  have hvn : vs.length = n := by rw [← hvs, Array.length_toList]; exact ha.1
  obtain ⟨bs, e, er, hal, so, fin⟩ := pick vs hvn fun j v q => ha.2 j v (by rw [← hvs] at q; rw [← Array.getElem?_toList]; exact q)
  have hbs := e.length
  have hvl : vs.length ≤ sizeLine := by omega
  refine wpAny_bind (wpAny_newList ?_ hvl)
  have hat : (h1.push (seqObj "list" vs.toArray 0)).get? h1.objs.size = some (seqObj "list" vs.toArray 0) := Heap.get?_push_size _ rfl
  have k2 : ∀ b ob, s.heap.get? b = some ob → (h1.push (seqObj "list" vs.toArray 0)).get? b = some ob := fun b ob q => Heap.get?_push_of_some _ (k1 b ob q)
  have ne : ∀ b ob, s.heap.get? b = some ob → b ≠ h1.objs.size := fun b ob q => Nat.ne_of_lt (Heap.lt_size (k1 b ob q))
  refine wpAny_bind (wpAny_holding (wpAny_call_entry_kw slot_list_sort ⟨_, hat, rfl⟩ entry_list_sort ?body (args_list_sort _)))
  case body =>
    have kp : ∀ b ob, s.heap.get? b = some ob → (sortingHeap (h1.push (seqObj "list" vs.toArray 0)) h1.objs.size vs).get? b = some ob := fun b ob q => sortingHeap_old (ne b ob q) (k2 b ob q)
    have er' : EachIs (fun v b => ∃ as, Reads (sortingHeap (h1.push (seqObj "list" vs.toArray 0)) h1.objs.size vs) v (enc b) as) vs bs := er.mono fun _ _ ⟨as, r⟩ => ⟨as, PyProof.Rows.Reads.keeps kp r⟩
    have S := so _ tk kp
    refine list_sort_vals (s := { s with heap := h1.push (seqObj "list" vs.toArray 0), toks := tk }) hat S hvl ?_
    refine ⟨_, rfl, wpAny_pure ⟨_, rfl, ?_⟩⟩
    obtain ⟨c, hc2⟩ := sortedHeap_at (h := h1.push (seqObj "list" vs.toArray 0)) (a := h1.objs.size) (vs := vs) (n := 0) (out := (sortVals (dataKind (sortingHeap (h1.push (seqObj "list" vs.toArray 0)) h1.objs.size vs) (bs.map enc)) false vs vs).toArray) hat
    refine fin _ h1 c _ tk (by rw [sortVals_length false rfl]; omega) (sortVals_data false e er' hal) k1 (fun b ob q => ?_) hc2
    have lt := Heap.lt_size (k2 b ob q)
    rw [sortedHeap_old (ne b ob q) lt]
    exact k2 b ob q
end
end Dv

namespace Dv
open PySem PySem.Spec L2

/-! ### operators on data -/
instance (i j : Int) : Decidable (CMul i j) := by unfold CMul; infer_instance
instance (i j : Int) : Decidable (CDivN i j) := by unfold CDivN; infer_instance
instance (i j : Int) : Decidable (CPow i j) := by unfold CPow; infer_instance
def dSub : D → D → Option D
  | .int i, .int j => some (.int (i - j))
  | _, _ => none
def dMul : D → D → Option D
  | .int i, .int j => if CMul i j then some (.int (i * j)) else none
  | _, _ => none
def dMod : D → D → Option D
  | .int i, .int j => if j ≠ 0 then some (.int (i.fmod j)) else none
  | _, _ => none
def dDiv : D → D → Option D
  | .int i, .int j => if CDivN i j then some (.int (i.fdiv j)) else none
  | _, _ => none
def dPow : D → D → Option D
  | .int i, .int j => if CPow i j then some (.int (i ^ j.toNat)) else none
  | _, _ => none
def dAdd : D → D → Option D
  | .int i, .int j => some (.int (i + j))
  | .str i, .str j => if i.length + j.length ≤ sizeLine then some (.str (i ++ j)) else none
  | .tuple a, .tuple b => if a.length + b.length ≤ sizeLine then some (.tuple (a ++ b)) else none
  | _, _ => none
def dCat : D → D → Option (List D)
  | .list a, .list b => if a.length + b.length ≤ sizeLine then some (a ++ b) else none
  | _, _ => none
def dNeg : D → Option D
  | .int i => some (.int (-i))
  | _ => none
def dEq (a b : D) : Option D := if min a.depth b.depth ≤ 60 then some (.bool (PyData.eqv a b)) else none
def dNe (a b : D) : Option D := if min a.depth b.depth ≤ 60 then some (.bool (!PyData.eqv a b)) else none
def notNone : D → Bool
  | .none => false
  | _ => true
def dLt (a b : D) : Option D := if PySem.W.alike a b = true ∧ notNone a = true ∧ min a.depth b.depth ≤ 60 then some (.bool (PySem.W.dataLt a b)) else none
def dLe (a b : D) : Option D := if PySem.W.alike a b = true ∧ notNone a = true ∧ min a.depth b.depth ≤ 60 then some (.bool (!PySem.W.dataLt b a)) else none
def dGt (a b : D) : Option D := if PySem.W.alike a b = true ∧ notNone a = true ∧ min a.depth b.depth ≤ 60 then some (.bool (PySem.W.dataLt b a)) else none
def dGe (a b : D) : Option D := if PySem.W.alike a b = true ∧ notNone a = true ∧ min a.depth b.depth ≤ 60 then some (.bool (!PySem.W.dataLt a b)) else none
def isNone : D → Bool
  | .none => true
  | _ => false
def bools : D → D → Option (Bool × Bool)
  | .bool x, .bool y => some (x, y)
  | _, _ => none
def dIsN (a b : D) : Option D := if isNone b then some (.bool (isNone a)) else (bools a b).map fun p => .bool (p.1 == p.2)
def dNotN (a b : D) : Option D := if isNone b then some (.bool (!isNone a)) else (bools a b).map fun p => .bool (p.1 != p.2)
theorem bools_some {a b : D} {p : Bool × Bool} (h : bools a b = some p) : a = .bool p.1 ∧ b = .bool p.2 := by
  unfold bools at h
  split at h
  · cases h; exact ⟨rfl, rfl⟩
  · cases h
theorem bool_is (a b d : D) (h : dIsN a b = some d) : ∃ k, d = .bool k := by
  unfold dIsN at h
  split at h
  · cases h; exact ⟨_, rfl⟩
  · cases q : bools a b with
    | none => rw [q] at h; cases h
    | some p => rw [q] at h; cases h; exact ⟨_, rfl⟩
theorem bool_not (a b d : D) (h : dNotN a b = some d) : ∃ k, d = .bool k := by
  unfold dNotN at h
  split at h
  · cases h; exact ⟨_, rfl⟩
  · cases q : bools a b with
    | none => rw [q] at h; cases h
    | some p => rw [q] at h; cases h; exact ⟨_, rfl⟩
def inStr (x y : Str) : Bool := !(Builtin.Str.occurrences y x 0 y.length 1).isEmpty
def dInB (neg : Bool) (a : D) : D → Option Bool
  | .list xs => if min (PyData.depthAll xs) a.depth ≤ 60 then some (if neg then !(xs.any fun y => PyData.eqv y a) else xs.any fun y => PyData.eqv y a) else none
  | .tuple xs => if min (PyData.depthAll xs) a.depth ≤ 60 then some (if neg then !(xs.any fun y => PyData.eqv y a) else xs.any fun y => PyData.eqv y a) else none
  | .str y => match a with
    | .str x => some (if neg then !inStr x y else inStr x y)
    | _ => none
  | _ => none
def dIn (a b : D) : Option D := (dInB false a b).map .bool
def dNotIn (a b : D) : Option D := (dInB true a b).map .bool
def dItem : D → D → Option D
  | .list xs, .int i => atI xs i
  | .tuple xs, .int i => atI xs i
  | .str z, .int i => if z.length ≤ sizeLine then (atI z.cps.toList i).map fun c => .str ⟨#[c]⟩ else none
  | _, _ => none

section
variable {K : PySem.W.Frag}
theorem opd_int0 {f : Int → Int → V} {g : D → D → Option D} (hg : ∀ d1 d2 d, g d1 d2 = some d → ∃ i j, d1 = .int i ∧ d2 = .int j ∧ ∃ (z : D), d = z ∧ ∀ (Z : Zn) (H : Hp), R K Z H (f i j) z) : OpD K (rI0 f) g := by
  intro Z H x y d1 d2 d Q zi r1 r2 hd hq
  obtain ⟨i, j, rfl, rfl, z, rfl, hz⟩ := hg _ _ _ hd
  exact ⟨i, j, r1.int_inv, r2.int_inv, hq _ Z H (Grow.refl zi) (hz Z H)⟩
theorem opd_int {C : Int → Int → Prop} {f : Int → Int → V} {g : D → D → Option D} (hg : ∀ d1 d2 d, g d1 d2 = some d → ∃ i j, d1 = .int i ∧ d2 = .int j ∧ C i j ∧ ∃ (z : D), d = z ∧ ∀ (Z : Zn) (H : Hp), R K Z H (f i j) z) : OpD K (rI C f) g := by
  intro Z H x y d1 d2 d Q zi r1 r2 hd hq
  obtain ⟨i, j, rfl, rfl, hc, z, rfl, hz⟩ := hg _ _ _ hd
  exact ⟨i, j, r1.int_inv, r2.int_inv, hc, hq _ Z H (Grow.refl zi) (hz Z H)⟩
theorem opd_sub : OpD K (rI0 fun i j => .int (i - j)) dSub := opd_int0 fun d1 d2 d h => by
  unfold dSub at h; split at h
  · cases h; exact ⟨_, _, rfl, rfl, _, rfl, fun _ _ => .int _⟩
  · cases h
theorem opd_mul : OpD K (rI CMul fun i j => .int (i * j)) dMul := opd_int fun d1 d2 d h => by
  unfold dMul at h; split at h
  · split at h
    · rename_i hc; cases h; exact ⟨_, _, rfl, rfl, hc, _, rfl, fun _ _ => .int _⟩
    · cases h
  · cases h
theorem opd_mod : OpD K (rI (fun _ j => j ≠ 0) fun i j => .int (i.fmod j)) dMod := opd_int fun d1 d2 d h => by
  unfold dMod at h; split at h
  · split at h
    · rename_i hc; cases h; exact ⟨_, _, rfl, rfl, hc, _, rfl, fun _ _ => .int _⟩
    · cases h
  · cases h
theorem opd_div : OpD K (rI CDivN fun i j => .int (i.fdiv j)) dDiv := opd_int fun d1 d2 d h => by
  unfold dDiv at h; split at h
  · split at h
    · rename_i hc; cases h; exact ⟨_, _, rfl, rfl, hc, _, rfl, fun _ _ => .int _⟩
    · cases h
  · cases h
theorem opd_pow : OpD K (rI CPow fun i j => .int (i ^ j.toNat)) dPow := opd_int fun d1 d2 d h => by
  unfold dPow at h; split at h
  · split at h
    · rename_i hc; cases h; exact ⟨_, _, rfl, rfl, hc, _, rfl, fun _ _ => .int _⟩
    · cases h
  · cases h
theorem und_neg : UnD K (rU fun i => .int (-i)) dNeg := by
  intro Z H x d1 d Q zi r1 hd hq
  unfold dNeg at hd
  split at hd
  · cases hd
    exact ⟨_, r1.int_inv, hq _ Z H (Grow.refl zi) (.int _)⟩
  · cases hd
/-- + -/
abbrev rAddAll (K : PySem.W.Frag) : R2 := fun x y H Q => (rI0 (fun i j => V.int (i + j)) x y H Q) ∨ ((fun x y H Q => ∃ i j, x = V.str i ∧ y = V.str j ∧ i.length + j.length ≤ sizeLine ∧ Q (V.str (i ++ j)) H : R2) x y H Q ∨ rCatA K x y H Q)
theorem op_addAll {X : Cx} : OpR X (binaryOp .Add) (rAddAll X.K) := OpR.or op_add (OpR.or op_add_str op_catA)
theorem opd_add : OpD K (rAddAll K) dAdd := by
  intro Z H x y d1 d2 d Q zi r1 r2 hd hq
  unfold dAdd at hd
  split at hd
  · cases hd
    exact .inl ⟨_, _, r1.int_inv, r2.int_inv, hq _ Z H (Grow.refl zi) (.int _)⟩
  · split at hd
    · rename_i hz
      cases hd
      exact .inr (.inl ⟨_, _, r1.str_inv, r2.str_inv, hz, hq _ Z H (Grow.refl zi) (.str _)⟩)
    · cases hd
  · rename_i a b
    split at hd
    · rename_i hz
      cases hd
      obtain ⟨p, xs, rfl, h1, s1⟩ := r1.tup_inv
      obtain ⟨q, ys, rfl, h2, s2⟩ := r2.tup_inv
      have l1 := s1.length
      have l2 := s2.length
      refine .inr (.inr ⟨p, q, xs, ys, rfl, rfl, h1, h2, by omega, fun e => ?_, fun e e2 => ?_, fun _ _ t ht => ?_⟩)
      · subst e
        cases s1
        exact hq _ Z H (Grow.refl zi) r2
      · subst e2
        cases s2
        rw [List.append_nil] at hq
        exact hq _ Z H (Grow.refl zi) r1
      · exact hq _ (Z.put t) _ (Grow.new zi ht) (.tup Zn.put_self upd_same (Pd.append (Rs.step (Grow.new zi ht).step s1) (Rs.step (Grow.new zi ht).step s2)))
    · cases hd
  · cases hd
/-- lists, wherever they stand -/
def rCatR (K : PySem.W.Frag) : R2 := fun x y H Q => ∃ l b xs zs, x = V.ref l ∧ y = V.ref b ∧ LE K H l xs ∧ LE K H b zs ∧ xs.length + zs.length ≤ sizeLine ∧ ∀ p, H p = none → Q (V.ref p) (upd H p (.lst (xs ++ zs)))
/-- what a new list leaves behind -/
theorem give_list {X : Cx} {pins : List (Addr × Obj)} {σ : L2.St} {H : Hp} {s : Shared} {xs : List V} {its : List Value} {Q : VK} (I : Inv X pins σ H s) (r : Vals xs its) (hz : xs.length ≤ sizeLine) (q : ∀ p, H p = none → Q (V.ref p) (upd H p (.lst xs))) :
    ∃ x H', Inv X pins σ H' { s with heap := s.heap.push { cls := .type "list", data := .seq its.toArray } } ∧ RelV x (.ref s.heap.objs.size) ∧ Q x H' :=
  ⟨.ref _, _, I.lnew (t' := s.toks) r hz, rfl, q _ I.fresh⟩
theorem op_catL {X : Cx} : OpR X (binaryOp .Add) (rCatR X.K) := fun {pins s σ H x y v u Q} I rx ry ⟨l, b, xs, zs, ex, ey, h1, h2, hz, q⟩ => by
  subst ex ey
  cases rx
  cases ry
  obtain ⟨is, r1, ⟨⟨c1, d1, t1, s1⟩, n1, g1, k1, m1, w1⟩, _⟩ := I.list h1
  obtain ⟨js, r2, ⟨⟨c2, d2, t2, s2⟩, n2, g2, k2, m2, w2⟩, _⟩ := I.list h2
  cases k1; cases w1; cases k2; cases w2
  have len : is.toArray.size + js.toArray.size ≤ sizeLine := by simpa [r1.length, r2.length] using hz
  have run := PyProof.Rows.list_addW l b is.toArray js.toArray n1 n2 d1 d2 s1 s2 len
  refine concat_meets ⟨_, g1, rfl⟩ ⟨_, g2, rfl⟩ noFill_list_add seq_list_add PySem.F.slot_list_add PySem.F.entry_list_add (PySem.F.args_list_add_2 _ _) run ⟨g1, g2, ?_⟩
  have z := give_list I (r1.append r2) (by simpa using hz) q
  rw [← List.append_toArray] at z
  exact z
theorem opf_cat : OpF K (rCatR K) dCat := by
  intro Z H x y d1 d2 ds Q zi r1 r2 hd hq
  unfold dCat at hd
  split at hd
  · split at hd
    · rename_i hz
      cases hd
      obtain ⟨p, xs, rfl, h1, s1⟩ := r1.lst_rd
      obtain ⟨q, ys, rfl, h2, s2⟩ := r2.lst_rd
      have l1 := s1.length
      have l2 := s2.length
      exact ⟨p, q, xs, ys, rfl, rfl, h1, h2, by omega, fun t ht => hq t _ ht (Pd.append s1 s2)⟩
    · cases hd
  · cases hd
/-- + of all kinds, frozen -/
def dAddL (a b : D) : Option D := match a, b with
  | .list x, .list y => (dCat (.list x) (.list y)).map .list
  | a, b => dAdd a b
theorem OpD.or {r r' : R2} {g g' h : D → D → Option D} (h1 : OpD K r g) (h2 : OpD K r' g') (hh : ∀ a b d, h a b = some d → g a b = some d ∨ g' a b = some d) : OpD K (fun x y H Q => r x y H Q ∨ r' x y H Q) h := by
  intro Z H x y d1 d2 d Q zi r1 r2 hd hq
  rcases hh _ _ _ hd with q | q
  · exact .inl (h1 Z H x y d1 d2 d Q zi r1 r2 q hq)
  · exact .inr (h2 Z H x y d1 d2 d Q zi r1 r2 q hq)
theorem opd_addL : OpD K (fun x y H Q => rAddAll K x y H Q ∨ rCatR K x y H Q) dAddL := OpD.or opd_add (OpF.d opf_cat) fun a b d h => by
  unfold dAddL at h
  split at h
  · exact .inr h
  · exact .inl h
theorem op_addL {X : Cx} : OpR X (binaryOp .Add) (fun x y H Q => rAddAll X.K x y H Q ∨ rCatR X.K x y H Q) := OpR.or op_addAll op_catL

/-! ### comparisons -/
def rCmpD (K : PySem.W.Frag) (g : D → D → Option D) : R2 := fun x y H Q => ∃ Z d1 d2 b, R K Z H x d1 ∧ R K Z H y d2 ∧ g d1 d2 = some (.bool b) ∧ Q (.bl b) H
theorem opd_cmp {g : D → D → Option D} (hb : ∀ a b d, g a b = some d → ∃ k, d = .bool k) : OpD K (rCmpD K g) g := by
  intro Z H x y d1 d2 d Q zi r1 r2 hd hq
  obtain ⟨k, rfl⟩ := hb _ _ _ hd
  exact ⟨Z, d1, d2, k, r1, r2, hd, hq _ Z H (Grow.refl zi) (.bl k)⟩
theorem R.rds {X : Cx} {pins : List (Addr × Obj)} {σ : L2.St} {H : Hp} {s : Shared} {Z : Zn} {x : V} {u : Value} {d : D} (I : Inv X pins σ H s) (r : R X.K Z H x d) (rv : RelV x u) : ∃ as, Reads s.heap u d as := Dp.reads I d x u r.dp rv
theorem op_eqP {X : Cx} (hu : X.A.units + 64 < cLine) : OpR X (compareOp .Eq) (rCmpD X.K dEq) := by
  intro pins s σ H x y v u Q I rx ry h
  obtain ⟨Z, d, e, b, hd, he, g, q⟩ := h
  obtain ⟨as, r1⟩ := hd.rds I rx
  obtain ⟨bs, r2⟩ := he.rds I ry
  unfold dEq at g
  split at g
  · cases g
    exact PySem.SeqAt.eq_plain r1 r2 hd.plain he.plain (by omega) ⟨.bl _, H, I, rfl, q⟩
  · cases g
theorem op_neP {X : Cx} (hu : X.A.units + 64 < cLine) : OpR X (compareOp .NotEq) (rCmpD X.K dNe) := by
  intro pins s σ H x y v u Q I rx ry h
  obtain ⟨Z, d, e, b, hd, he, g, q⟩ := h
  obtain ⟨as, r1⟩ := hd.rds I rx
  obtain ⟨bs, r2⟩ := he.rds I ry
  unfold dNe at g
  split at g
  · cases g
    exact PySem.SeqAt.ne_plain r1 r2 hd.plain he.plain (by omega) ⟨.bl _, H, I, rfl, q⟩
  · cases g
theorem notNone_ne {a : D} (h : notNone a = true) : a ≠ .none := by rintro rfl; cases h
theorem op_ltP {X : Cx} (hu : X.A.units + 64 < cLine) : OpR X (compareOp .Lt) (rCmpD X.K dLt) := by
  intro pins s σ H x y v u Q I rx ry h
  obtain ⟨Z, d, e, b, hd, he, g, q⟩ := h
  obtain ⟨as, r1⟩ := hd.rds I rx
  obtain ⟨bs, r2⟩ := he.rds I ry
  unfold dLt at g
  split at g
  · rename_i hc
    cases g
    exact PySem.W.lt_data r1 r2 hc.1 (notNone_ne hc.2.1) (by omega) ⟨.bl _, H, I, rfl, q⟩
  · cases g
theorem op_leP {X : Cx} (hu : X.A.units + 64 < cLine) : OpR X (compareOp .LtE) (rCmpD X.K dLe) := by
  intro pins s σ H x y v u Q I rx ry h
  obtain ⟨Z, d, e, b, hd, he, g, q⟩ := h
  obtain ⟨as, r1⟩ := hd.rds I rx
  obtain ⟨bs, r2⟩ := he.rds I ry
  unfold dLe at g
  split at g
  · rename_i hc
    cases g
    exact PySem.W.le_data r1 r2 hc.1 (notNone_ne hc.2.1) (by omega) ⟨.bl _, H, I, rfl, q⟩
  · cases g
theorem op_gtP {X : Cx} (hu : X.A.units + 64 < cLine) : OpR X (compareOp .Gt) (rCmpD X.K dGt) := by
  intro pins s σ H x y v u Q I rx ry h
  obtain ⟨Z, d, e, b, hd, he, g, q⟩ := h
  obtain ⟨as, r1⟩ := hd.rds I rx
  obtain ⟨bs, r2⟩ := he.rds I ry
  unfold dGt at g
  split at g
  · rename_i hc
    cases g
    exact PySem.W.gt_data r1 r2 hc.1 (notNone_ne hc.2.1) (by omega) ⟨.bl _, H, I, rfl, q⟩
  · cases g
theorem op_geP {X : Cx} (hu : X.A.units + 64 < cLine) : OpR X (compareOp .GtE) (rCmpD X.K dGe) := by
  intro pins s σ H x y v u Q I rx ry h
  obtain ⟨Z, d, e, b, hd, he, g, q⟩ := h
  obtain ⟨as, r1⟩ := hd.rds I rx
  obtain ⟨bs, r2⟩ := he.rds I ry
  unfold dGe at g
  split at g
  · rename_i hc
    cases g
    exact PySem.W.ge_data r1 r2 hc.1 (notNone_ne hc.2.1) (by omega) ⟨.bl _, H, I, rfl, q⟩
  · cases g
theorem isNone_v {Z : Zn} {H : Hp} {x : V} {d : D} (r : R K Z H x d) : decide (x = V.non) = isNone d := by cases r <;> rfl
theorem op_isP {X : Cx} : OpR X (compareOp .Is) (rCmpD X.K dIsN) := by
  intro pins s σ H x y v u Q I rx ry h
  obtain ⟨Z, d, e, b, hd, he, g, q⟩ := h
  unfold dIsN at g
  split at g
  · rename_i hn
    cases g
    have e1 := isNone_v he
    rw [hn] at e1
    exact op_isN pins s σ H x y v u Q I rx ry ⟨of_decide_eq_true e1, by rw [isNone_v hd]; exact q⟩
  · cases p : bools d e with
    | none => rw [p] at g; cases g
    | some p' =>
      rw [p] at g
      cases g
      obtain ⟨rfl, rfl⟩ := bools_some p
      obtain rfl := hd.bl_inv
      obtain rfl := he.bl_inv
      cases rx
      cases ry
      exact PyProof.Rows.is_bool ⟨.bl _, H, I, rfl, q⟩
theorem op_isnotP {X : Cx} : OpR X (compareOp .IsNot) (rCmpD X.K dNotN) := by
  intro pins s σ H x y v u Q I rx ry h
  obtain ⟨Z, d, e, b, hd, he, g, q⟩ := h
  unfold dNotN at g
  split at g
  · rename_i hn
    cases g
    have e1 := isNone_v he
    rw [hn] at e1
    exact op_notN pins s σ H x y v u Q I rx ry ⟨of_decide_eq_true e1, by rw [isNone_v hd]; exact q⟩
  · cases p : bools d e with
    | none => rw [p] at g; cases g
    | some p' =>
      rw [p] at g
      cases g
      obtain ⟨rfl, rfl⟩ := bools_some p
      obtain rfl := hd.bl_inv
      obtain rfl := he.bl_inv
      cases rx
      cases ry
      exact PyProof.Rows.isnot_bool ⟨.bl _, H, I, rfl, q⟩
theorem op_inP {X : Cx} (hu : X.A.units + 80 < cLine) : OpR X (compareOp .In) (rCmpD X.K dIn) := by
  intro pins s σ H x y v u Q I rx ry h
  obtain ⟨Z, d, e, b, hd, he, g, q⟩ := h
  obtain ⟨as, r1⟩ := hd.rds I rx
  obtain ⟨bs, r2⟩ := he.rds I ry
  unfold dIn at g
  cases e with
  | list xs =>
    unfold dInB at g
    dsimp only at g
    split at g
    · cases g
      exact PySem.SeqAt.in_list_data r2 r1 he.plain hd.plain (by omega) ⟨.bl _, H, I, rfl, q⟩
    · cases g
  | tuple xs =>
    unfold dInB at g
    dsimp only at g
    split at g
    · cases g
      exact PySem.SeqAt.in_tuple_data r2 r1 he.plain hd.plain (by omega) ⟨.bl _, H, I, rfl, q⟩
    · cases g
  | str z =>
    unfold dInB at g
    dsimp only at g
    split at g
    · cases g
      exact op_in_str pins s σ H x y v u Q I rx ry ⟨_, _, hd.str_inv, he.str_inv, q⟩
    · cases g
  | _ => unfold dInB at g; cases g
theorem op_notInP {X : Cx} (hu : X.A.units + 80 < cLine) : OpR X (compareOp .NotIn) (rCmpD X.K dNotIn) := by
  intro pins s σ H x y v u Q I rx ry h
  obtain ⟨Z, d, e, b, hd, he, g, q⟩ := h
  obtain ⟨as, r1⟩ := hd.rds I rx
  obtain ⟨bs, r2⟩ := he.rds I ry
  unfold dNotIn at g
  cases e with
  | list xs =>
    unfold dInB at g
    dsimp only at g
    split at g
    · cases g
      exact PySem.SeqAt.notIn_list_data r2 r1 he.plain hd.plain (by omega) ⟨.bl _, H, I, rfl, q⟩
    · cases g
  | tuple xs =>
    unfold dInB at g
    dsimp only at g
    split at g
    · cases g
      exact PySem.SeqAt.notIn_tuple_data r2 r1 he.plain hd.plain (by omega) ⟨.bl _, H, I, rfl, q⟩
    · cases g
  | str z =>
    unfold dInB at g
    dsimp only at g
    split at g
    · cases g
      exact op_notin_str pins s σ H x y v u Q I rx ry ⟨_, _, hd.str_inv, he.str_inv, q⟩
    · cases g
  | _ => unfold dInB at g; cases g
theorem bool_of {g : D → D → Option D} {p : D → D → Prop} [∀ a b, Decidable (p a b)] {f : D → D → Bool} (h : ∀ a b, g a b = if p a b then some (.bool (f a b)) else none) : ∀ a b d, g a b = some d → ∃ k, d = .bool k := fun a b d q => by
  rw [h] at q
  split at q
  · cases q; exact ⟨_, rfl⟩
  · cases q
theorem bool_in (a b d : D) (h : dIn a b = some d) : ∃ k, d = .bool k := by
  unfold dIn at h
  cases q : dInB false a b with
  | none => rw [q] at h; cases h
  | some k => rw [q] at h; cases h; exact ⟨k, rfl⟩
theorem bool_notIn (a b d : D) (h : dNotIn a b = some d) : ∃ k, d = .bool k := by
  unfold dNotIn at h
  cases q : dInB true a b with
  | none => rw [q] at h; cases h
  | some k => rw [q] at h; cases h; exact ⟨k, rfl⟩
/-- subscripts -/
theorem opd_item : OpD K (rIx K) dItem := by
  intro Z H x y d1 d2 d Q zi r1 r2 hd hq
  unfold dItem at hd
  split at hd
  · obtain ⟨a, xs, rfl, h1, s1⟩ := r1.lst_inv
    obtain ⟨j, h2, h3, h4, h5, h6⟩ := atI_get hd
    obtain ⟨w, h7, rw'⟩ := Pd.get s1 h3
    refine .inl ⟨a, xs, _, w, rfl, r2.int_inv, h1, ?_, hq _ Z H (Grow.refl zi) rw'⟩
    unfold atI at hd ⊢
    rw [s1.length]
    cases e : ixN _ _ with
    | none => rw [e] at hd; cases hd
    | some k =>
      rw [e] at hd
      obtain ⟨e1, _⟩ := ixN_seq e
      rw [h2] at e1
      cases e1
      exact h7
  · obtain ⟨a, xs, rfl, h1, s1⟩ := r1.tup_inv
    obtain ⟨j, h2, h3, h4, h5, h6⟩ := atI_get hd
    obtain ⟨w, h7, rw'⟩ := Pd.get s1 h3
    refine .inr (.inl ⟨a, xs, _, w, rfl, r2.int_inv, h1, ?_, hq _ Z H (Grow.refl zi) rw'⟩)
    unfold atI at hd ⊢
    rw [s1.length]
    cases e : ixN _ _ with
    | none => rw [e] at hd; cases hd
    | some k =>
      rw [e] at hd
      obtain ⟨e1, _⟩ := ixN_seq e
      rw [h2] at e1
      cases e1
      exact h7
  · split at hd
    · rename_i hz
      cases e : atI (_ : List Nat) _ with
      | none => rw [e] at hd; cases hd
      | some c =>
        rw [e] at hd
        cases hd
        exact .inr (.inr ⟨_, _, c, r1.str_inv, r2.int_inv, hz, e, hq _ Z H (Grow.refl zi) (.str _)⟩)
    · cases hd
  · cases hd

/-! ### slices -/
def cutD {α : Type} (xs : List α) (lo hi : Option Int) : List α := (xs.drop (HT.sIx xs.length 0 lo)).take (HT.sIx xs.length xs.length hi - HT.sIx xs.length 0 lo)
def dSlice (a : D) (lo hi : Option Int) : Option D := match a with
  | .list xs => some (.list (cutD xs lo hi))
  | .tuple xs => some (.tuple (cutD xs lo hi))
  | .str z => if z.length ≤ sizeLine then some (.str (cutS z lo hi)) else none
  | _ => none
def rSlAll (K : PySem.W.Frag) : V → Option Int → Option Int → Hp → VK → Prop := fun x lo hi H Q => (rSlL K x lo hi H Q ∨ rSlA K x lo hi H Q) ∨ (∃ z, x = V.str z ∧ z.length ≤ sizeLine ∧ Q (V.str (cutS z lo hi)) H)
theorem cutD_whole {α : Type} (xs : List α) (lo hi : Option Int) (h : HT.sIx xs.length 0 lo = 0 ∧ HT.sIx xs.length xs.length hi = xs.length) : cutD xs lo hi = xs := by
  unfold cutD
  rw [h.1, h.2]
  simp
theorem sld_all {Z : Zn} {H : Hp} {x : V} {d1 d : D} {lo hi : Option Int} {Q : VK} (zi : ∀ a, Z a → H a ≠ none) (r1 : R K Z H x d1) (hd : dSlice d1 lo hi = some d) (hq : ∀ v Z' H', Grow Z H Z' H' → R K Z' H' v d → Q v H') : rSlAll K x lo hi H Q := by
  unfold dSlice at hd
  split at hd
  · cases hd
    obtain ⟨a, xs, rfl, h1, s1⟩ := r1.lst_inv
    refine .inl (.inl ⟨a, xs, rfl, h1, fun p hp => hq _ (Z.put p) _ (Grow.new zi hp) (.lst Zn.put_self (.inl upd_same) ?_)⟩)
    have l := s1.length
    unfold cutV cutD
    rw [← l]
    exact Pd.take _ (Pd.drop _ (Rs.step (Grow.new zi hp).step s1))
  · cases hd
    obtain ⟨a, xs, rfl, h1, s1⟩ := r1.tup_inv
    have l := s1.length
    refine .inl (.inr ⟨a, xs, rfl, h1, fun hw => ?_, fun hw p hp => hq _ (Z.put p) _ (Grow.new zi hp) (.tup Zn.put_self upd_same ?_)⟩)
    · refine hq _ Z H (Grow.refl zi) ?_
      rw [cutD_whole _ _ _ (by rw [← l]; exact hw)]
      exact r1
    · unfold cutV cutD
      rw [← l]
      exact Pd.take _ (Pd.drop _ (Rs.step (Grow.new zi hp).step s1))
  · split at hd
    · rename_i hz
      cases hd
      exact .inr ⟨_, r1.str_inv, hz, hq _ Z H (Grow.refl zi) (.str _)⟩
    · cases hd
  · cases hd
end
section
variable {K : PySem.W.Frag}
def dRep : D → D → Option (List D)
  | .list a, .int k => if -(2 ^ 63) ≤ k ∧ k < 2 ^ 63 ∧ a.length * k.toNat ≤ sizeLine then some (List.replicate k.toNat a).flatten else none
  | _, _ => none
theorem Rs.reps {Z : Zn} {H : Hp} {vs : List V} {ds : List D} (r : Rs K Z H vs ds) : ∀ k : Nat, Rs K Z H (List.replicate k vs).flatten (List.replicate k ds).flatten
  | 0 => .nil
  | k + 1 => by
    simp only [List.replicate_succ, List.flatten_cons]
    exact Pd.append r (Rs.reps r k)
end
end Dv

namespace Dv
open PySem PySem.Spec L2
/-! a tuple times a number -/
def dRepT (a b : D) : Option D := match a, b with
  | .tuple xs, .int k => if xs ≠ [] ∧ 2 ≤ k ∧ k ≤ 1000 ∧ xs.length ≤ 1000 then some (.tuple (List.replicate k.toNat xs).flatten) else none
  | _, _ => none
def dMulL (a b : D) : Option D := match a with
  | .tuple xs => dRepT (.tuple xs) b
  | a => dMul a b
variable {K : PySem.W.Frag}
theorem rs_rep {Z : Zn} {H : Hp} {xs : List V} {ds : List D} (h : Rs K Z H xs ds) : ∀ n : Nat, Rs K Z H (List.replicate n xs).flatten (List.replicate n ds).flatten
  | 0 => .nil
  | n + 1 => by
    rw [List.replicate_succ, List.replicate_succ, List.flatten_cons, List.flatten_cons]
    exact Pd.append h (rs_rep h n)
theorem opd_repT : OpD K (L2.rRepT K) dRepT := by
  intro Z H x y d1 d2 d Q zi r1 r2 hd hq
  unfold dRepT at hd
  split at hd
  · split at hd
    · rename_i hc
      cases hd
      obtain ⟨p, xs, rfl, h1, s1⟩ := r1.tup_inv
      have l1 := s1.length
      refine ⟨p, _, xs, rfl, r2.int_inv, h1, fun e => ?_, hc.2.1, hc.2.2.1, by omega, fun t ht => ?_⟩
      · subst e
        cases s1
        exact hc.1 rfl
      · exact hq _ (Z.put t) _ (Grow.new zi ht) (.tup Zn.put_self upd_same (rs_rep (Rs.step (Grow.new zi ht).step s1) _))
    · cases hd
  · cases hd
theorem opd_mulL : OpD K (fun x y H Q => (rI CMul fun i j => .int (i * j)) x y H Q ∨ L2.rRepT K x y H Q) dMulL := OpD.or opd_mul opd_repT fun a b d h => by
  cases a with
  | tuple xs => exact .inr h
  | _ => exact .inl h
theorem op_mulL {X : Cx} : OpR X (binaryOp .Mult) (fun x y H Q => (rI CMul fun i j => .int (i * j)) x y H Q ∨ L2.rRepT X.K x y H Q) := OpR.or op_mul L2.op_repT
end Dv

/-! An exception that leaves a list comprehension by a call in its element. -/
namespace Dv
open PySem PySem.Spec L2

/-- the context of a comprehension's block that lets an exception out -/
abbrev blkX (X : Cx) (s : Shared) (H : Hp) (scope : Scope) (ce : Env) (fp : List Addr) : Cx :=
  (X.blk s H scope ce fp).tr [] (notedBy (model X.prog X.w) X.A ce (CompFails (model X.prog X.w) X.A X.xe ce))
/-- calls may let out what W wishes -/
abbrev Pass (X : Cx) (W : WX) : Prop := ∀ σ, PassesAt (L2.CX X.prog X.w) X σ (WE W σ)
theorem Pass.of {X : Cx} {W : WX} (tk : Takes X W) : Pass X W := fun σ => passAt tk σ

/-- what flies, flies: the other two are excluded by the traceback's record -/
theorem sky_flies {B B' : Heap} {l : List Env} {a L : Addr} {Z Z' : Obj → Prop} {h : Heap} (f : HandSPX.FlyingZ B l a Z h) (s : Sky B' l a Z' L h) : HandSPX.FlyingZ B' l a Z' h := by
  obtain ⟨_, _, _, oe, vs, T, oT, ts, he, _, hd, h1, _, _, hT, hdT, h3⟩ := f
  rcases s with ⟨_, _, _, oe', vs', he', _, hd', h1'⟩ | s | ⟨_, _, _, oe', vs', T', oT', ts', he', _, hd', h1', _, _, hT', hdT', h3'⟩
  · rw [he] at he'; cases he'
    rw [hd] at hd'; cases hd'
    rw [h1] at h1'; cases h1'
  · exact s
  · rw [he] at he'; cases he'
    rw [hd] at hd'; cases hd'
    rw [h1] at h1'; cases h1'
    rw [hT] at hT'; cases hT'
    rw [hdT] at hdT'; cases hdT'
    rw [h3] at h3'
    simp [rawInt] at h3'

/-- an exception in the air, noted at most by the frame L -/
def XEL (X : Cx) (W : WX) (L : Addr) (u : Value) (s' : Shared) : Prop :=
  ∃ (a : Addr) (B : Heap) (sI : Shared) (pins : List (Addr × Obj)) (σ : L2.St) (H : Hp) (cls : Value) (d : Option Addr), u = .ref a ∧ (Inv X pins σ H sI ∧ (∀ b o, sI.heap.get? b = some o → b ∉ frs X.stack → B.get? b = some o) ∧ sI.heap.UpToSlots s'.heap) ∧
    Sky B X.stack a (Zc cls d) L s'.heap ∧ H a = none ∧ s'.os = sI.os ∧ PyProof.Rows.AllBare s'.gens ∧ W cls d σ H
/-- code of the frame L, a def's body or a block within; what is raised by W's leave goes on -/
structure LX (X : Cx) (W : WX) (L : Addr) : Prop where
  tk : ∀ u s', XEL X W L u s' → X.xe u s'
  fr : X.env.frame = some L
  st : ∃ eF oF, X.stack = eF :: oF ∧ eF.frame = some L
/-- or nothing may be raised at all -/
def LXo (X : Cx) (W : WX) : Prop := (∀ c d σ H, ¬ W c d σ H) ∨ ∃ L, LX X W L
theorem LX.of {X : Cx} {W : WX} (tk : Takes X W) (hst : X.stack = X.env :: X.outer) (hf : X.env.frame = some X.env.locals) : LX X W X.env.locals :=
  ⟨fun u s' ⟨a, B, sI, pins, σ, H, cls, d, e, ⟨I, nb, up⟩, r⟩ => tk u s' ⟨a, B, sI, pins, σ, H, cls, d, e, I, nb, up, r⟩, hf, ⟨_, _, hst, hf⟩⟩
theorem LXo.pass {X : Cx} {W : WX} (lx : LXo X W) : Pass X W := by
  intro σ pins H s e s' I c
  rcases lx with no | ⟨L, lx⟩
  · obtain ⟨_, _, _, _, _, _, _, _, _, _, _, _, w⟩ := c
    exact absurd w (no _ _ _ _)
  · have fly : ∃ B a Z, HandSPX.FlyingZ B X.stack a Z s'.heap ∧ e = .ref a := let ⟨a, B, _, _, _, ea, fl, _⟩ := c; ⟨B, a, _, fl, ea⟩
    obtain ⟨B0, a, Z0, fl0, rfl⟩ := fly
    obtain ⟨a', B, sI, pins2, σ2, H2, cls, d, ea, J, nb, up, sky, r⟩ := XE.of_call I (fun _ _ _ h => h) c
    obtain rfl : a = a' := by cases ea; rfl
    exact lx.tk _ _ ⟨a, B, sI, pins2, σ2, H2, cls, d, rfl, ⟨J, nb, up⟩, .inr (.inl (sky_flies fl0 sky)), r⟩
section
variable {X : Cx} {W : WX} {pins : List (Addr × Obj)} {σ : L2.St} {H : Hp} {s : Shared} {scope : Scope} {ce : Env} {fp : List Addr}
/-- the block is let go under it -/
theorem fails_blk {L a : Addr} {B : Heap} {sI s' : Shared} {pins2 : List (Addr × Obj)} {σ2 : L2.St} {H2 : Hp} {cls : Value} {d : Option Addr} {h1 : Heap} (lx : LX X W L) (I0 : Inv X pins σ H s) (hcf : ce.frame = X.env.frame) (hC : s.heap.objs.size ≤ ce.locals) (hfp : ∀ b ∈ fp, FpOk X pins H b)
    (J : Inv (blkX X s H scope ce fp) pins2 σ2 H2 sI) (nb : ∀ b o, sI.heap.get? b = some o → b ∉ frs X.stack → B.get? b = some o) (up : sI.heap.UpToSlots h1) (held : HandSPX.HeldZ B X.stack a (Zc cls d) L h1) (na : H2 a = none) (os : s'.os = sI.os) (ag : PyProof.Rows.AllBare s'.gens) (w : W cls d σ H2) :
    CompFails (model X.prog X.w) X.A X.xe ce (.ref a) { s' with heap := h1 } := by
  have nC : H2 ce.locals = none := J.free
  -- the def's own state
  have I2 : Inv X pins σ H2 sI := I0.call' (ch := fp) J.os J.base J.hok J.bare fun b hb => ⟨(hfp b hb).2.2.2.1, (hfp b hb).2.1, (hfp b hb).2.2.2.2.1, (hfp b hb).2.2.2.2.2⟩
  have fC := I0.fpOk (H' := H2) hC nC
  have I3 : Inv X pins σ H2 { sI with heap := PySem.W.hideAll sI.heap [ce.locals] } := I2.turned (t' := sI.toks) (fun b o hb e => PySem.W.hideAll_get _ e (by simpa using hb)) fC.1 fC.2.1 fC.2.2.2.1 fC.2.2.2.2.1 fC.2.2.2.2.2
  -- the block's names still stand
  obtain ⟨mI, hnI, _⟩ := J.loc
  have hnI : sI.heap.Ns ce.locals mI := hnI
  have hn1 : h1.Ns ce.locals mI := hnI.upToSlots up
  refine ⟨mI, hn1, fun h2 m2 hn2 sb => ?_⟩
  obtain ⟨b1, b2, b3, oe, vs, T, oT, ts, he, hz, hd, h1', hnT, hTe, hT, hdT, h3⟩ := held
  have isD : ∀ b o ws, h1.get? b = some o → o.data = .fields ws → b ≠ ce.locals := fun b o ws eb db q => by
    obtain ⟨oL, es, ep, hoL, hdL, _⟩ := hn1
    rw [← q, eb] at hoL
    cases hoL
    rw [db] at hdL
    cases hdL
  have keep2 : ∀ b o, b ≠ ce.locals → h1.get? b = some o → h2.get? b = some o := fun b o hb eb => (sb.2 b hb).trans eb
  -- the ground without the block's names
  have gB : ∀ b o, (PySem.W.hideAll B [ce.locals]).get? b = some o → B.get? b = some o ∧ b ≠ ce.locals := fun b o q => ⟨PySem.W.of_hideAll _ q, fun z => by
    rw [z, PySem.W.hideAll_none [ce.locals] (h := B) (b := ce.locals) (by simp)] at q
    cases q⟩
  have gN : ∀ b, B.get? b = none → (PySem.W.hideAll B [ce.locals]).get? b = none := fun b hb => by
    cases q : (PySem.W.hideAll B [ce.locals]).get? b with
    | none => rfl
    | some o => rw [(gB b o q).1] at hb; cases hb
  have st2 : (PySem.W.hideAll B [ce.locals]).StaysIn h2 := fun b o q => keep2 b o (gB b o q).2 (b1 b o (gB b o q).1)
  have fr2 : h2.FunFrames (PySem.W.hideAll B [ce.locals]) X.stack := funFrames_none (Heap.FunFrames.sameBut sb hn2 b3) fun L hL => by
    obtain ⟨env, hm, eL⟩ := List.mem_filterMap.mp hL
    obtain ⟨z, _⟩ := b3.mem (b := L) (List.mem_filterMap.mpr ⟨env, hm, eL⟩)
    exact gN L z
  have tr2 : HandSPX.TracedZ h2 (PySem.W.hideAll B [ce.locals]) a (Zc cls d) (rawInt L) :=
    ⟨oe, vs, T, oT, ts, keep2 a oe (isD a oe vs he hd) he, hz, hd, h1', gN T hnT, hTe, keep2 T oT (isD T oT ts hT hdT) hT, hdT, h3⟩
  unfold passOn
  refine wpAny_bind (wpAny_field (keep2 a oe (isD a oe vs he hd) he) hd h1' ?_)
  rw [if_neg (by simp : ¬ (Value.ref T == Value.none) = true)]
  rw [hcf, lx.fr]
  refine wpAny_bind (HandSPX.setFlight_anyZ (l := X.stack) (fr := some L) st2 fr2 tr2 fun h3 k1 k2 k3 k4 => wpAny_throw ?_)
  refine lx.tk _ _ ⟨a, PySem.W.hideAll B [ce.locals], _, pins, σ, H2, cls, d, rfl, ⟨I3, fun b o q hb => ?_, fun b o q hnf => ?_⟩, .inr (.inr ⟨k1, gN a b2, k2, k3⟩), na, os, ag, w⟩
  · have hbC : b ≠ ce.locals := fun z => by
      rw [z, PySem.W.hideAll_none [ce.locals] (h := sI.heap) (b := ce.locals) (by simp)] at q
      cases q
    exact PySem.W.hideAll_get _ (nb b o (PySem.W.of_hideAll _ q) hb) (by simpa using hbC)
  · have hbC : b ≠ ce.locals := fun z => by
      rw [z, PySem.W.hideAll_none [ce.locals] (h := sI.heap) (b := ce.locals) (by simp)] at q
      cases q
    obtain ⟨l1, q1⟩ := up b o (PySem.W.of_hideAll _ q) hnf
    obtain ⟨l3, q3⟩ := k4 b _ (keep2 b _ hbC q1) hnf
    exact ⟨l3, q3⟩
theorem LX.blk {L : Addr} (lx : LX X W L) (I0 : Inv X pins σ H s) (hcf : ce.frame = X.env.frame) (hC : s.heap.objs.size ≤ ce.locals) (hfp : ∀ b ∈ fp, FpOk X pins H b) : LX (blkX X s H scope ce fp) (fun cls d _ H' => W cls d σ H') L where
  fr := hcf.trans lx.fr
  st := lx.st
  tk := fun u s' ⟨a, B, sI, pins2, σ2, H2, cls, d, eu, ⟨J, nb, up⟩, sky, na, os, ag, w⟩ => by
    obtain ⟨eF, oF, hst, hf⟩ := lx.st
    have sky : Sky B X.stack a (Zc cls d) L s'.heap := sky
    have hfr : X.A.frames = some (eF :: oF) := by rw [I0.ok.frames, hst]
    have hcF : ce.frame = eF.frame := by rw [hcf, lx.fr, hf]
    rw [eu]
    show wpAny (model X.prog X.w) X.A (noteFrame (.ref a) ce) _ _ s'
    rw [noteFrame_env _ hcF]
    have go : ∀ h1, HandSPX.HeldZ B (eF :: oF) a (Zc cls d) L h1 → s'.heap.UpToSlots h1 → CompFails (model X.prog X.w) X.A X.xe ce (.ref a) { s' with heap := h1 } := fun h1 held up1 =>
      fails_blk lx I0 hcf hC hfp J nb (up.trans up1) (by rw [hst]; exact held) na os ag w
    rw [hst] at sky
    rcases sky with ⟨hB, hn, hl, oe, vs, he, hz, hd, h1⟩ | fl | hh
    · exact HandSPX.look_newZ Zc.steady hfr hl hf he hB hn hd h1 hz go
    · exact HandSPX.looks_onZ Zc.steady hfr hf fl go
    · exact HandSPX.againZ hf hh.2.2.2 (go s'.heap hh (Heap.UpToSlots.refl _))
theorem LXo.blk (lx : LXo X W) (I0 : Inv X pins σ H s) (hcf : ce.frame = X.env.frame) (hC : s.heap.objs.size ≤ ce.locals) (hfp : ∀ b ∈ fp, FpOk X pins H b) : LXo (blkX X s H scope ce fp) (fun cls d _ H' => W cls d σ H') := by
  rcases lx with no | ⟨L, lx⟩
  · exact .inl fun c d _ H => no c d σ H
  · exact .inr ⟨L, lx.blk I0 hcf hC hfp⟩

/-- what stands where the block begins -/
structure Begun (X : Cx) (pins : List (Addr × Obj)) (σ : L2.St) (s : Shared) (H : Hp) (fp : List Addr) : Prop where
  inv : Inv X pins σ H s
  fps : ∀ b ∈ fp, FpOk X pins H b ∧ b < s.heap.objs.size
/-- the parts of a comprehension, in the block's own context -/
structure Parts (X : Cx) (Y : Cx) (tg elt : Expr) (ifs : List Expr) (g : TG) (tt : TT) (te : TE) : Prop where
  tg : PG Y tg g
  ifs : PTs Y ifs tt
  elt : PE Y elt te
/-- the list to be filled is laid beside the iterator -/
abbrev laidX (s : Shared) : Shared := { s with heap := s.heap.push { cls := .type "list", data := .seq ([] : List Value).toArray } }
theorem Begun.lay {it : Addr} {tn : Nat → Heap → Prop} {tg : Expr} {J : It} (T : Turn X.prog X.w X.K tg J fp it tn) (st : tn 0 s.heap) (I : Inv X pins σ H s) (f : ∀ b ∈ fp, FpOk X pins H b) : Begun X pins σ (laidX s) (upd H s.heap.objs.size (.lst [])) fp := by
  refine ⟨I.laid (t' := s.toks) (fun _ _ e => Heap.get?_push_of_some _ e) (Nat.le_refl _) ⟨Nat.zero_le _, [], 0, .nil, Heap.get?_push_size _ rfl⟩, fun b hb => ?_⟩
  have ⟨_, e, _⟩ := T.obj 0 s.heap st b hb
  have lt := Heap.lt_size e
  have ⟨fa, fr⟩ := f b hb
  exact ⟨⟨(upd_ne (Nat.ne_of_lt lt)).trans fa, fr⟩, Nat.lt_of_lt_of_eq (Nat.lt_succ_of_lt lt) (Heap.size_push ..).symm⟩
/-- the block's own names, and the state in which they are new -/
abbrev ceX (X : Cx) (scope : Scope) (s : Shared) : Env := compEnvC scope (cellsFrom (s.heap.objs.size + 1) scope.names (cloFrom X.env.cells scope.names [])) s.heap.objs.size X.env
abbrev openX (scope : Scope) (s : Shared) : Shared := { s with heap := pushCells (s.heap.push { cls := .type "dict", data := .dict #[] }) scope.names }
/-- between two turns -/
structure Rest (Y : Cx) (fp : List Addr) (tn : Nat → Heap → Prop) (τ : L2.St) (i : Nat) (H : Hp) (s : Shared) : Prop where
  inv : Inv Y [] τ H s
  off : ∀ b ∈ fp, H b = none
  at_ : tn i s.heap
section
variable {s0 : Shared} {H0 : Hp} {it D : Addr} {tn : Nat → Heap → Prop} {J : It} {tg elt : Expr} {ifs : List Expr} {g : TG} {tt : TT} {te : TE} {vs : List Nat} {i : Nat} {E : Value → Shared → Prop}
theorem Rest.free {τ : L2.St} (r : Rest (blkX X s0 H0 scope ce fp) fp tn τ i H s) : ∀ b ∈ fp, FpOk (blkX X s0 H0 scope ce fp) [] H b := fun b hb =>
  have ⟨e1, e2⟩ := r.inv.ok.exf b hb
  ⟨r.off b hb, e1, r.inv.ok.exfs b hb, .inl hb, e2, fun _ no => nomatch no⟩
/-- a turn is over: the pins fall, the block's names are wiped -/
theorem Rest.over {τ : L2.St} {H' : Hp} {s1 s' : Shared} (T : Turn X.prog X.w X.K tg J fp it tn) (st : tn i s1.heap) (J' : Inv (blkX X s0 H0 scope ce fp) ([] ++ pinsAt fp s1.heap) τ H' s') : Rest (blkX X s0 H0 scope ce fp) fp tn (wipe τ vs) i H' s' := by
  have pin : ∀ b, b ∈ fp → ∀ o, s1.heap.get? b = some o → s'.heap.get? b = some o ∧ H' b = none := fun b hb o e =>
    have z := J'.pin ⟨b, o⟩ (by simp [mem_pinsAt hb e])
    ⟨z.1, z.2.1⟩
  exact {
    inv := J'.unpinned.weak (pins := []) (wipe_length ..) fun _ _ e => (wipe_some e).1
    off := fun b hb => let ⟨o, e, _⟩ := T.obj i s1.heap st b hb; (pin b hb o e).2
    at_ := T.keep i _ _ st fun b hb o e => (pin b hb o e).1 }
/-- one turn; P: what the block's state is to be behind it -/
theorem Rest.turn {P Nx : Shared → Prop} {N : Hp → Prop} (T : Turn X.prog X.w X.K tg J fp it tn) (hc : X.calm = true) (pp : Parts X (blkX X s0 H0 scope ce fp) tg elt ifs g tt te) (out : ∀ e s', (blkX X s0 H0 scope ce fp).xe e s' → E e s') (r : Rest (blkX X s0 H0 scope ce fp) fp tn (wipe σ vs) i H s) (go : J.go i H)
    (step : ∀ x H', J.yld i H x H' → g x (wipe σ vs) H' fun σ2 H2 => wipe σ2 vs = wipe σ vs ∧ tt σ2 H2 fun b H3 => if b = true then te σ2 H3 fun y H4 => ∃ acc, H4 D = some (.lst acc) ∧ acc.length < sizeLine ∧ N (upd H4 D (.lst (acc ++ [y]))) else N H3)
    (stop : Shared → Prop) (end_ : ∀ s' H', Rest (blkX X s0 H0 scope ce fp) fp tn (wipe σ vs) (i + 1) H' s' → N H' → P s') :
    wpAny (model X.prog X.w) X.A (pyNext (.ref it)) (fun r s₁ => match r with
      | none => stop s₁
      | some v => wpAny (model X.prog X.w) X.A (letOwnedTupleGo tg (.ref it) v) (fun _ s₁' => wpAny (model X.prog X.w) X.A (assign tg ce v) (fun _ s₂ =>
          wpAny (model X.prog X.w) X.A (forIn ifs true fun c r => if r = true then do let ok ← isTrue c ce (eval c ce); pure (ForInStep.yield ok) else pure (ForInStep.yield r)) (fun ok s₃ =>
            if ok = true then wpAny (model X.prog X.w) X.A (eval elt ce) (fun x s₄ => wpAny (model X.prog X.w) X.A (call (.builtin "list.append") [.ref D, x]) (fun _ s₅ => P s₅) E s₄) E s₃ else P s₃) E s₂) E s₁') E s₁) E s := by
  have on : ∀ {α : Type} {t : Sem α} {Q Q' : α → Shared → Prop} {s' : Shared}, wpAny (model X.prog X.w) X.A t Q (blkX X s0 H0 scope ce fp).xe s' → (∀ a s'', Q a s'' → Q' a s'') → wpAny (model X.prog X.w) X.A t Q' E s' := fun h k => wpAny_mono h k out
  refine on (T.item (blkX X s0 H0 scope ce fp) rfl rfl rfl hc i [] s _ H _ r.inv r.free r.at_ go) fun v s1 ⟨u, ev, h⟩ => ?_
  cases ev
  refine on h fun _ s2 ⟨x, H2, I2, rx, yx, st2, off2⟩ => ?_
  have r2 : Rest (blkX X s0 H0 scope ce fp) fp tn (wipe σ vs) (i + 1) H2 s2 := ⟨I2, off2, st2⟩
  refine on (pp.tg.run _ s2 _ H2 x u _ (I2.pinned r2.free (T.obj _ _ st2)) rx (step x H2 yx)) fun _ s3 ⟨τ, H3, I3, same, q3⟩ => ?_
  have done : ∀ (s' : Shared) (H' : Hp), Inv (blkX X s0 H0 scope ce fp) ([] ++ pinsAt fp s2.heap) τ H' s' → N H' → P s' := fun s' H' J' n => end_ s' H' (same ▸ Rest.over T st2 J') n
  refine on (pp.ifs.run _ s3 τ H3 _ I3 q3) fun b s4 ⟨H4, I4, q4⟩ => ?_
  cases b with
  | false => exact done s4 H4 I4 (by simpa using q4)
  | true =>
    rw [if_pos rfl] at q4 ⊢
    exact on (pp.elt.run _ s4 τ H4 _ I4 q4) fun y s5 ⟨yv, H5, I5, ry, acc, hD, hz, n⟩ => app_ok (X := blkX X s0 H0 scope ce fp) I5 hD hz ry fun s6 I6 => done s6 _ I6 n
end
/-- the block from its first turn to its end -/
theorem lcX_block {own : List (Str × Nat)} {it D : Addr} {tn : Nat → Heap → Prop} {J : It} {tg elt : Expr} {ifs : List Expr} {g : TG} {tt : TT} {te : TE} {pos : Pos} {use : Option (Value → Sem Unit)} {Qf : Value → Shared → Prop} {R : Hp → Prop} {W : Nat → Nat → Hp → Prop} {m0 : Nat}
    (hc : X.calm = true) (hN : X.N.Nodup) (ok : BlkOk X.N X.env.scope scope own) (bg : Begun X pins σ s H fp) (T : Turn X.prog X.w X.K tg J fp it tn) (st : tn 0 s.heap) (pp : Parts X (blkX X s H scope (ceX X scope s) fp) tg elt ifs g tt te) (w0 : W 0 m0 H)
    (turn : ∀ i m H, W i m H → (J.stop i H ∧ R H) ∨ (J.go i H ∧ ∃ Nx : Hp → Prop, (∀ H', Nx H' → ∃ m', m' < m ∧ W (i + 1) m' H') ∧ ∀ x H', J.yld i H x H' → g x (wipe σ (own.map (·.2))) H' fun σ2 H2 => wipe σ2 (own.map (·.2)) = wipe σ (own.map (·.2)) ∧ tt σ2 H2 fun b H3 =>
      if b = true then te σ2 H3 fun y H4 => ∃ acc, H4 D = some (.lst acc) ∧ acc.length < sizeLine ∧ Nx (upd H4 D (.lst (acc ++ [y]))) else Nx H3))
    (fin : ∀ s' m H', Inv X pins σ H' s' → R H' → s'.heap.Ns (ceX X scope s).locals m → FpOk X pins H' (ceX X scope s).locals → compEnds (model X.prog X.w) X.A X.xe use Qf (.ref D) (ceX X scope s) (.ok .next) s') :
    codeAny (model X.prog X.w) X.A (.compStart (.ListComp elt [⟨tg, iter, ifs, 0⟩] scope pos) 0 (.ref it) (.ref D) (ceX X scope s)) (compEnds (model X.prog X.w) X.A X.xe use Qf (.ref D) (ceX X scope s)) (openX scope s) := by
  have out : ∀ e s', (blkX X s H scope (ceX X scope s) fp).xe e s' → notedBy (model X.prog X.w) X.A (ceX X scope s) (fun e s' => compEnds (model X.prog X.w) X.A X.xe use Qf (.ref D) (ceX X scope s) (.error e) s') e s' := fun e s' z => by cases use <;> exact z
  have r0 : Rest (blkX X s H scope (ceX X scope s) fp) fp tn (wipe σ (own.map (·.2))) 0 H (openX scope s) := {
    inv := (block_start bg.inv ok hN bg.fps).toTry _
    off := fun b hb => (bg.fps b hb).1.1
    at_ := T.keep 0 _ _ st fun b _ o e => pushCells_keeps _ _ _ _ (Heap.get?_push_of_some _ e) }
  have eL : s.heap.objs.size ≤ (ceX X scope s).locals := Nat.le_refl _
  generalize ceX X scope s = ce at *
  have all : codeAny (model X.prog X.w) X.A (.compLoop (.ListComp elt [⟨tg, iter, ifs, 0⟩] scope pos) 0 (.ref it) (.ref D) ce) (compEnds (model X.prog X.w) X.A X.xe use Qf (.ref D) ce) (openX scope s) := by
    refine compLoop_any (fun n s' => ∃ i H', Rest (blkX X s H scope ce fp) fp tn (wipe σ (own.map (·.2))) i H' s' ∧ W i n H') (fun n s' ⟨i, H', r, w⟩ => ?_) m0 ⟨0, H, r0, w0⟩
    rcases turn i n H' w with ⟨no, q⟩ | ⟨go, N, less, step⟩
    · refine wpAny_mono (T.done (blkX X s H scope ce fp) rfl rfl rfl hc i [] s' _ H' _ r.inv r.free r.at_ no) (fun v s'' ⟨ev, I'⟩ => ?_) out
      cases ev
      have ⟨m, hm, _⟩ := I'.loc
      refine fin s'' m H' (bg.inv.call' (ch := fp) I'.os I'.base I'.hok I'.bare fun b hb => ?_) q hm (bg.inv.fpOk eL I'.free)
      have f := (bg.fps b hb).1
      exact ⟨f.2.2.2.1, f.2.1, f.2.2.2.2.1, f.2.2.2.2.2⟩
    · exact r.turn (Nx := fun _ => True) T hc pp out go step _ fun s'' H'' r' n' => have ⟨m, lt, w'⟩ := less H'' n'; ⟨m, lt, i + 1, H'', r', w'⟩
  exact codeAny_compStart_list all (T.self X.A 0 _ _ _ r0.at_ all)
theorem lcX_run {own : List (Str × Nat)} {wi : TI} {g : TG} {tt : TT} {te : TE} {elt tg iter : Expr} {ifs : List Expr} {pos pos' : Pos} {use : Option (Value → Sem Unit)} {Qf : Value → Shared → Prop} {Q : VK}
    (hc : X.calm = true) (hN : X.N.Nodup) (I : Inv X pins σ H s) (hi : PI X tg iter wi) (ok : BlkOk X.N X.env.scope scope own)
    (hp : ∀ (s : Shared) (H : Hp) (cl : List (Str × Addr)) (fp : List Addr), Begun X pins σ s H fp → Parts X (blkX X s H scope (compEnvC scope cl s.heap.objs.size X.env) fp) tg elt ifs g tt te)
    (hs : ∀ x, foldedSetIterable iter X.env x = pure x) (h : tLc wi g tt te (own.map (·.2)) σ H Q)
    (fin : ∀ D ce s' m H', Inv X pins σ H' s' → Q (.ref D) H' → s'.heap.Ns ce.locals m → FpOk X pins H' ce.locals → compEnds (model X.prog X.w) X.A X.xe use Qf (.ref D) ce (.ok .next) s') :
    wpAny (model X.prog X.w) X.A (comprehension (.ListComp elt [⟨tg, iter, ifs, 0⟩] scope pos) scope X.env pos' (newList []) false (eval iter X.env) use) Qf X.xe s := by
  have clo := closure_ok (env := X.env) (scope := scope) fun y hy e => I.ok.has _ (ok.free y hy e)
  refine comprehension_at rfl hs clo ok.kind (fun y hy e => (ok.uniq y hy).trans (congrArg some e)) (thn (hi.run pins s σ H _ I h) fun _ _ hx => thn hx fun _ s2 ⟨it, fp, tn, J, H2, eit, I2, T, st2, f2, q⟩ => ?_)
  cases eit
  have ⟨W, ⟨m0, w0⟩, turn⟩ := q s2.heap.objs.size (I2.hok.fresh (Nat.le_refl _))
  have bg := Begun.lay T st2 I2 f2
  have st3 : tn 0 (laidX s2).heap := T.keep 0 _ _ st2 fun _ _ _ e => Heap.get?_push_of_some _ e
  exact wpAny_newObj_type (newEnv_comp (lcX_block hc hN ok bg T st3 (hp _ _ _ fp bg) w0 turn fun s' m H' I' r hm f => fin _ _ s' m H' I' r hm f)) (Nat.zero_le _)
/-- as a value; what the parts ask may look at the slots where the comprehension begins -/
theorem pe_lcX {own : List (Str × Nat)} {wi : TI} {g : TG} {tt : L2.St → TT} {te : L2.St → TE} {elt tg iter : Expr} {ifs : List Expr} {pos : Pos} (hc : X.calm = true) (hN : X.N.Nodup) (hi : PI X tg iter wi) (ok : BlkOk X.N X.env.scope scope own)
    (hp : ∀ (pins : List (Addr × Obj)) (σ : L2.St) (s : Shared) (H : Hp) (cl : List (Str × Addr)) (fp : List Addr), Begun X pins σ s H fp → Parts X (blkX X s H scope (compEnvC scope cl s.heap.objs.size X.env) fp) tg elt ifs g (tt σ) (te σ))
    (hs : ∀ x, foldedSetIterable iter X.env x = pure x) : PE X (.ListComp elt [⟨tg, iter, ifs, 0⟩] scope pos) (fun σ H Q => tLc wi g (tt σ) (te σ) (own.map (·.2)) σ H Q) where
  run := fun pins s σ H Q I h => by
    rw [eval_ListComp]
    exact lcX_run (use := none) hc hN I hi ok (hp pins σ) hs h fun D ce s' m H' J q hn ⟨_, f1, f2, f3, f4, f5⟩ => ⟨m, hn, fun h2 sb => ⟨.ref D, H', J.turned (t' := s'.toks) (fun b o hb e => (sb.2 b hb).trans e) (by assumption) f1 f3 f4 f5, rfl, q⟩⟩
/-- name = [..] on one line -/
theorem ps_setLcX {own : List (Str × Nat)} {i : Nat} {y : Str} {py : Pos} {wi : TI} {g : TG} {tt : L2.St → TT} {te : L2.St → TE} {elt tg iter : Expr} {ifs : List Expr} {pos spos : Pos} (hc : X.calm = true) (hN : X.N.Nodup) (hy : X.N[i]? = some y) (hl : X.env.scope.names.lookup y = some .local)
    (hw : swapsWith (.ListComp elt [⟨tg, iter, ifs, 0⟩] scope pos) (some (.Name y py)) spos.line X.env = pure true) (hi : PI X tg iter wi) (ok : BlkOk X.N X.env.scope scope own)
    (hp : ∀ (pins : List (Addr × Obj)) (σ : L2.St) (s : Shared) (H : Hp) (cl : List (Str × Addr)) (fp : List Addr), Begun X pins σ s H fp → Parts X (blkX X s H scope (compEnvC scope cl s.heap.objs.size X.env) fp) tg elt ifs g (tt σ) (te σ))
    (hs : ∀ x, foldedSetIterable iter X.env x = pure x) : PS X (.Assign [.Name y py] (.ListComp elt [⟨tg, iter, ifs, 0⟩] scope pos) spos) (tAsg (fun σ H Q => tLc wi g (tt σ) (te σ) (own.map (·.2)) σ H Q) (gName i)) where
  run := fun pins s σ H D I h => by
    have asked : tLc wi g (tt σ) (te σ) (own.map (·.2)) σ H (fun x H1 => gName i x σ H1 D.nx) := h
    have run := lcX_run (use := some (assign (.Name y py) X.env)) (Qf := fun _ s' => SP X pins D .next s') (pos := pos) (pos' := firstIterPos [⟨tg, iter, ifs, 0⟩] pos) hc hN I hi ok (hp pins σ) hs asked fun L ce s' m H' J q hn f => by
      refine wpAny_assign_Name (store_ok2 (v := V.ref L) J hN hy (.inl hl) rfl (fun s2 J2 ⟨a, sb, ha⟩ => ?_) (.inr hl))
      have away : ce.locals ≠ a := ha.elim (fun z => by rw [z]; exact f.2.1) fun z e => f.2.2.2.2.1 y a z e.symm
      exact ⟨m, hn.sameBut sb away, fun h3 sb3 => ⟨_, H', J2.turned (t' := s2.toks) (fun b o hb e => (sb3.2 b hb).trans e) f.1 f.2.1 f.2.2.2.1 f.2.2.2.2.1 f.2.2.2.2.2, q⟩⟩
    rw [exec_Assign_Name_used _ _ _ _ hw]
    exact wpAny_bind (wpAny_standAt (wpAny_bind (wpAny_bind (thn run fun _ s' hq => wpAny_pure (wpAny_pure hq)))))
end
end Dv

/-! Own exceptions whose __init__ says super().__init__(..) and then keeps its arguments as fields of the same names; the base ValueError (also through own classes) or Exception. -/
namespace Dv
open PySem PySem.Spec PySem.W PySem.Calls PyProof.Rows L2

/-- the two families of bases -/
structure Fam where
  B : String
  newId : String
  i : String
  bmB : List Value
def famV : Fam := ⟨"ValueError", "ValueError.__new__", "ValueError.__init__", [.type "ValueError", .type "Exception", .type "BaseException", .type "object"]⟩
def famE : Fam := ⟨"Exception", "Exception.__new__", "Exception.__init__", [.type "Exception", .type "BaseException", .type "object"]⟩
def Fam.mro (f : Fam) (C : Addr) (l : List Value) : Prop := (f = famV ∧ HandSPX.refsVE l = true) ∨ (f = famE ∧ l = .ref C :: ESX.exTail)
/-- self.f = f, one after another -/
inductive Stores : List Str → List Stmt → Prop
  | nil : Stores [] []
  | cons {f : Str} {fs : List Str} {r : List Stmt} (q1 q2 q3 q4 : Pos) : Stores fs r → Stores (f :: fs) (.Assign [.Attribute (.Name "self" q1) f q2] (.Name f q3) q4 :: r)

section
variable {prog : Program} {w : World} {A : Around} {E : Value → Shared → Prop} {R : Result → Shared → Prop} {K : Frag} {C : Addr} {fam : Fam}
/-- the first store makes the dict -/
theorem st_new {hp : Heap} {g : Array GenState} {d : Drawn} {t : Nat} {os : OsState} {name : Str} {tk : Tok} {v : Value} {x : Addr} {fv : Array Value} {cd : ClassData}
    (X : K.In hp) (hx : hp.get? x = some { cls := .ref C, data := .fields fv }) (hcd : clsIn K C = some cd) (hm : fam.mro C cd.mro) (hh : cd.hasDict = true) (ha : findIn K (.ref C) name = some none)
    (hq : ∀ h' tk' dx, (∀ b o, b ≠ x → hp.get? b = some o → h'.get? b = some o) → hp.objs.size ≤ dx → dx ≠ x → h'.get? x = some { cls := .ref C, dict := some dx, data := .fields fv } →
      h'.Ns1 dx (fun y => if y = name then some v else none) → R (.ok (.ret .none)) ⟨h', g, d, tk', os⟩) :
    codeAny (model prog w) A (.call (.builtin "object.__setattr__") ⟨[.ref x, .str name tk, v], []⟩) R ⟨hp, g, d, t, os⟩ := by
  rcases hm with ⟨_, hm⟩ | ⟨_, hm⟩
  · exact HandSPX.exc_osa X hx hcd hm hh ha hq
  · exact ESX.osa_new X hx hcd hm hh ha hq
theorem st_old {hp : Heap} {g : Array GenState} {d : Drawn} {t : Nat} {os : OsState} {name : Str} {tk : Tok} {v : Value} {x dx : Addr} {fv : Array Value} {cd : ClassData} {m0 : Str → Option Value} {nl : List Str}
    (X : K.In hp) (hx : hp.get? x = some { cls := .ref C, dict := some dx, data := .fields fv }) (hns : hp.Ns1 dx m0) (hw : Within m0 nl) (hz : nl.length ≤ 1000) (hcd : clsIn K C = some cd) (hm : fam.mro C cd.mro) (hh : cd.hasDict = true) (ha : findIn K (.ref C) name = some none)
    (hq : ∀ h' tk', (∀ b o, b ≠ dx → hp.get? b = some o → h'.get? b = some o) → h'.Ns1 dx (fun y => if y = name then some v else m0 y) → R (.ok (.ret .none)) ⟨h', g, d, tk', os⟩) :
    codeAny (model prog w) A (.call (.builtin "object.__setattr__") ⟨[.ref x, .str name tk, v], []⟩) R ⟨hp, g, d, t, os⟩ := by
  rcases hm with ⟨_, hm⟩ | ⟨_, hm⟩
  · exact PySem.OEX.osa_old X hx hns hw hz hcd hm hh ha hq
  · exact ESX.osa_old X hx hns hw hz hcd hm hh ha hq

def putAll (val : Str → Value) : List Str → (Str → Option Value) → Str → Option Value
  | [], m => m
  | f :: fs, m => putAll val fs fun y => if y = f then some (val f) else m y
theorem in_but {h h' : Heap} {x : Addr} (X : K.In h) (hx : K.lookup x = none) (k : ∀ b o, b ≠ x → h.get? b = some o → h'.get? b = some o) : K.In h' := fun a o e =>
  k a o (fun z => by rw [z, hx] at e; cases e) (X a o e)
theorem ns_but {h h' : Heap} {L x : Addr} {m : Str → Option Value} (hn : h.Ns L m) (hL : L ≠ x) (k : ∀ b o, b ≠ x → h.get? b = some o → h'.get? b = some o) : h'.Ns L m := by
  obtain ⟨oL, es, ep, e, r⟩ := hn
  exact ⟨oL, es, ep, k L oL hL e, r⟩
/-- what a name of the __init__ is -/
structure NameOk (K : Frag) (C : Addr) (env : Env) (m : Str → Option Value) (val : Str → Value) (f : Str) : Prop where
  loc : env.kindOf f = some .local
  dbg : (f == ("__debug__" : Str)) = false
  val : m f = some (val f)
  no : findIn K (.ref C) f = some none
theorem stores_more {env : Env} {m : Str → Option Value} {val : Str → Value} {x dx : Addr} {fv : Array Value} {cd : ClassData} {Q : Flow → Shared → Prop} (hkd : env.scope.kind = .function) (hcd : clsIn K C = some cd) (hm : fam.mro C cd.mro) (hh : cd.hasDict = true)
    (sa : findIn K (.ref C) "__setattr__" = some (some (.builtin "object.__setattr__"))) (hsl : env.kindOf "self" = some .local) (hsv : m "self" = some (.ref x)) (kd : K.lookup dx = none) (xd : x ≠ dx) (ld : env.locals ≠ dx) :
    ∀ {fs : List Str} {r : List Stmt}, Stores fs r → (∀ f ∈ fs, NameOk K C env m val f) → ∀ (s : Shared) (m0 : Str → Option Value) (nl : List Str), K.In s.heap → s.heap.Ns env.locals m →
      s.heap.get? x = some { cls := .ref C, dict := some dx, data := .fields fv } → s.heap.Ns1 dx m0 → Within m0 nl → nl.length + fs.length ≤ 900 →
      (∀ h' tk, (∀ b o, b ≠ dx → s.heap.get? b = some o → h'.get? b = some o) → h'.Ns1 dx (putAll val fs m0) → Q .next { s with heap := h', toks := tk }) → wpAny (model prog w) A (execs r env) Q E s := by
  intro fs r st
  induction st with
  | nil => exact fun _ s m0 nl X hn hx hd hw hz hq => wpAny_execs_nil (hq s.heap s.toks (fun _ _ _ e => e) hd)
  | @cons f fs r q1 q2 q3 q4 st ih =>
    intro ok s m0 nl X hn hx hd hw hz hq
    have of := ok f (by simp)
    refine wpAny_execs_cons (plainObj_wpAny_Assign_Attribute ?_)
    refine wpAny_Name (wpAny_loadName_local hkd of.loc hn of.val ?_) of.dbg
    refine wpAny_Name (wpAny_loadName_local hkd hsl hn hsv ?_)
    obtain ⟨od, hod, _⟩ : ∃ od, s.heap.get? dx = some od ∧ True := by
      obtain ⟨o, _, _, e, _⟩ := hd.count hw
      exact ⟨o, e, trivial⟩
    refine set_plain X (ox := { cls := .ref C, dict := some dx, data := .fields fv }) (od := some od) ⟨hx, rfl, rfl, hod⟩ sa ?_
    obtain ⟨hp, g, d, tk, os⟩ := s
    refine st_old X hx hd hw (by omega) hcd hm hh of.no fun h' tk' k hd' => ?_
    refine ih (fun f' hf' => ok f' (by simp [hf'])) ⟨h', g, d, tk', os⟩ _ (f :: nl) (in_but X kd k) (ns_but hn ld k) (k x _ xd hx) hd' (fun y hy => ?_) (by simp at hz ⊢; omega) fun h2 tk2 k2 hd2 => ?_
    · by_cases e : y = f
      · simp [e]
      · have : m0 y ≠ none := by simpa [e] using hy
        simp [hw y this]
    · exact hq h2 tk2 (fun b o hb e => k2 b o hb (k b o hb e)) hd2
/-- all of them, on a fresh exception -/
theorem stores_all {env : Env} {m : Str → Option Value} {val : Str → Value} {x : Addr} {fv : Array Value} {cd : ClassData} {Q : Flow → Shared → Prop} {f : Str} {fs : List Str} {r : List Stmt} {s : Shared} (st : Stores (f :: fs) r) (hkd : env.scope.kind = .function) (hcd : clsIn K C = some cd) (hm : fam.mro C cd.mro) (hh : cd.hasDict = true)
    (sa : findIn K (.ref C) "__setattr__" = some (some (.builtin "object.__setattr__"))) (hsl : env.kindOf "self" = some .local) (hsv : m "self" = some (.ref x)) (ok : ∀ y ∈ f :: fs, NameOk K C env m val y) (X : K.In s.heap) (hn : s.heap.Ns env.locals m)
    (hx : s.heap.get? x = some { cls := .ref C, data := .fields fv }) (kx : K.lookup x = none) (lx : env.locals ≠ x) (hz : fs.length ≤ 800)
    (hq : ∀ h' tk dx, (∀ b o, b ≠ x → s.heap.get? b = some o → h'.get? b = some o) → s.heap.objs.size ≤ dx → dx ≠ x → h'.get? x = some { cls := .ref C, dict := some dx, data := .fields fv } → h'.Ns1 dx (putAll val (f :: fs) fun _ => none) → Q .next { s with heap := h', toks := tk }) :
    wpAny (model prog w) A (execs r env) Q E s := by
  cases st with
  | @cons _ _ r q1 q2 q3 q4 st =>
  have of := ok f (by simp)
  refine wpAny_execs_cons (plainObj_wpAny_Assign_Attribute ?_)
  refine wpAny_Name (wpAny_loadName_local hkd of.loc hn of.val ?_) of.dbg
  refine wpAny_Name (wpAny_loadName_local hkd hsl hn hsv ?_)
  refine set_plain X (ox := { cls := .ref C, data := .fields fv }) (od := none) ⟨hx, rfl, rfl, trivial⟩ sa ?_
  obtain ⟨hp, g, d, tk, os⟩ := s
  refine st_new X hx hcd hm hh of.no fun h' tk' dx k dn dne hx' hd' => ?_
  have kd : K.lookup dx = none := by
    cases e : K.lookup dx with
    | none => rfl
    | some o => exact absurd (Heap.lt_size (X _ _ e)) (Nat.not_lt.mpr dn)
  have ld : env.locals ≠ dx := Nat.ne_of_lt (Nat.lt_of_lt_of_le hn.lt dn)
  refine stores_more (dx := dx) hkd hcd hm hh sa hsl hsv kd (Ne.symm dne) ld st (fun y hy => ok y (by simp [hy])) ⟨h', g, d, tk', os⟩ _ [f] (in_but X kx k) (ns_but hn lx k) hx' hd' (fun y hy => ?_) (by simp; omega) fun h2 tk2 k2 hd2 => ?_
  · by_cases e : y = f
    · simp [e]
    · simp [e] at hy
  · refine hq h2 tk2 dx (fun b o hb e => k2 b o ?_ (k b o hb e)) dn dne (k2 x _ (Ne.symm dne) hx') hd2
    exact Nat.ne_of_lt (Nat.lt_of_lt_of_le (Heap.lt_size e) dn)
end

/-- what the parameters are bound to -/
abbrev selfB (x : Value) (ps : List Str) (us : List Value) : List (Str × Value) := (("self" : Str), x) :: ps.zip us
/-- o.name(e) on one line -/
theorem mcall1 {o e : Expr} {name : Str} {apos pos : Pos} {env : Env} (hp : (apos.endLine == pos.line) = true) (he : starEach [e] env = [(false, eval e env)]) :
    eval (.Call (.Attribute o name apos) [e] [] pos) env = (do
      let ov ← attributeBase o name env (eval o env)
      standAt apos.atName
      let (f, first) ← holding [ov] (getMethod ov name (do return (← importBound o env).getD true))
      callWith pos f first (backTo pos (starEach [e] env)) []) := by
  rw [arm_eval_Call]
  have form : methodCallForm ([e].length + ([] : List Keyword).length) (backTo pos (starEach [e] env)) (backToKw pos (keywordEach [] env)) = true := by rw [he]; rfl
  have cp : methodCallPos true o env apos pos = pure pos := by
    unfold methodCallPos
    rw [hp]
    rfl
  unfold methodCall
  rw [form, cp]
  rfl
/-- what the written part says of an own exception class, at C, and of its __init__, at fI -/
structure SupT (prog : Program) (K : Frag) (mg : Str → Option Value) (C fI : Addr) (fam : Fam) (ps : List Str) : Prop where
  mro : ∃ cd, clsIn K C = some cd ∧ fam.mro C cd.mro ∧ cd.hasDict = true
  sa : findIn K (.ref C) "__setattr__" = some (some (.builtin "object.__setattr__"))
  no : ∀ f ∈ ps, findIn K (.ref C) f = some none
  iC : findIn K (.ref C) "__init__" = some (some (.ref fI))
  tC : typeIn K (.ref fI) = some (.type "function")
  kC : keepIn K (.ref C) = true
  exC : subIn K (.ref C) (.type "BaseException") = some true
  tyC : typeIn K (.ref C) = some (.type "type")
  sup : ks_superIn K C C "__init__" = some (some (.builtin fam.i))
  subB : subIn K (.ref C) (.type fam.B) = some true
  mC : mroIn K C (.ref C) = some true
  exI : excInitIn K C fam.bmB fam.newId = true
  op : nsIn K cStatics "thirdparty.any" = some none
  noS : mg "super" = none
  facts : KxsFacts fam.B fam.i ∧ ExcBaseFacts fam.B fam.newId fam.i fam.bmB
  fn : ∃ (cc cda : Addr) (oc kV doc pm ct cl ccl : Value) (od an cld cdd : Option Addr) (osl csl ccs : Array (Option Value)) (vs : Array Value) (file : Str) (tf : Tok) (qual : Str) (prm : Arguments) (sc : Scope) (ar : Arg) (p0 p1 p2 p3 p4 : Pos) (e : Expr) (r : List Stmt),
    K.lookup fI = some ⟨oc, od, .func (ksFn "__init__" qual prm (.Expr (.Call (.Attribute (.Call (.Name "super" p0) [] [] p1) "__init__" p2) [e] [] p3) p4 :: r) sc .none kV doc pm an (.ref cda) ct cc), osl⟩ ∧ codeIn K (.ref cda) qual = true ∧
    K.lookup cc = some ⟨cl, cld, .cell (some (.ref C)), csl⟩ ∧ K.lookup cda = some ⟨ccl, cdd, .fields vs, ccs⟩ ∧ vs[2]? = some (.str file tf) ∧ ((prog.main.file : Str) == file) = true ∧ (prog.main.scope.names.lookup ("super" : Str)).isSome = false ∧
    (prm.posonlyargs ++ prm.args).head? = some ar ∧ ar.arg = "self" ∧
    (sc.kind = .function ∧ sc.isCoroutine = false ∧ sc.isGenerator = false) ∧ (sc.names.lookup ("super" : Str) = some .globalImplicit ∧ sc.names.lookup ("__class__" : Str) = some .free ∧ sc.names.lookup ("self" : Str) = some .local) ∧
    (∀ y ∈ sc.names, y.2 ≠ .cell) ∧ (∀ f ∈ ps, sc.names.lookup f = some .local ∧ (f == ("__debug__" : Str)) = false ∧ f ≠ "self") ∧ Stores ps r ∧ (p2.endLine == p3.line) = true ∧
    ((∃ z j p, e = .Constant (.str z) j p) ∨ (∃ y p, e = .Name y p ∧ y ∈ ps)) ∧
    (∀ (s : Shared) (x : Value) (us : List Value), us.length = ps.length → BindsTo s (ksFn "__init__" qual prm (.Expr (.Call (.Attribute (.Call (.Name "super" p0) [] [] p1) "__init__" p2) [e] [] p3) p4 :: r) sc .none kV doc pm an (.ref cda) ct cc) ⟨x :: us, []⟩ (selfB x ps us))
/-- the fields -/
def fieldsV (ps : List Str) (us : List Value) : Str → Value := fun y => ((ps.zip us).reverse.lookup y).getD .none
theorem lookup_zip {ps : List Str} {us : List Value} (hl : us.length = ps.length) {f : Str} (hf : f ∈ ps) (hs : f ≠ "self") (x : Value) : ((selfB x ps us).reverse).lookup f = some (fieldsV ps us f) := by
  have key : ∀ {l : List (Str × Value)}, f ∈ l.map (·.1) → ∃ v, l.lookup f = some v := by
    intro l
    induction l with
    | nil => intro h; simp at h
    | cons p l ih =>
      intro h
      obtain ⟨a, b⟩ := p
      by_cases e : f = a
      · subst e; exact ⟨b, by simp [List.lookup]⟩
      · have q : (f == a) = false := by simpa using e
        simp only [List.map_cons, List.mem_cons] at h
        obtain ⟨v, hv⟩ := ih (h.resolve_left e)
        exact ⟨v, by simp [List.lookup, q, hv]⟩
  have hm : f ∈ ((ps.zip us).reverse).map (·.1) := by
    rw [List.map_reverse, List.mem_reverse, List.map_fst_zip (by omega)]
    exact hf
  obtain ⟨v, hv⟩ := key hm
  have e1 : fieldsV ps us f = v := by simp [fieldsV, hv]
  have app : ∀ {l l' : List (Str × Value)} {v : Value}, l.lookup f = some v → (l ++ l').lookup f = some v := by
    intro l
    induction l with
    | nil => intro l' v h; cases h
    | cons p l ih =>
      intro l' v h
      obtain ⟨a, b⟩ := p
      simp only [List.cons_append, List.lookup] at h ⊢
      split at h
      · exact h
      · exact ih h
  rw [e1, List.reverse_cons]
  exact app hv
theorem lookup_self {ps : List Str} {us : List Value} (hs : ∀ f ∈ ps, f ≠ "self") (x : Value) : ((selfB x ps us).reverse).lookup ("self" : Str) = some x := by
  have none' : ∀ {l : List (Str × Value)}, (∀ p ∈ l, p.1 ≠ "self") → (l ++ [(("self" : Str), x)]).lookup ("self" : Str) = some x := by
    intro l
    induction l with
    | nil => intro _; simp [List.lookup]
    | cons p l ih =>
      intro h
      have q : (("self" : Str) == p.1) = false := by
        have := h p (by simp)
        simpa using Ne.symm this
      simp only [List.cons_append, List.lookup, q]
      exact ih fun p hp => h p (by simp [hp])
  rw [List.reverse_cons]
  exact none' fun p hp => hs _ (List.of_mem_zip (List.mem_reverse.mp hp)).1
/-- what __init__ leaves of a fresh exception at x -/
structure InitLeft (h h' : Heap) (x C dx t1 : Addr) (mf : Str → Option Value) : Prop where
  keep : ∀ b o, b ≠ x → h.get? b = some o → h'.get? b = some o
  obj : h'.get? x = some { cls := .ref C, dict := some dx, data := .fields #[.ref t1, .none, .none, .none, .bool false, .none] }
  big : h.objs.size ≤ dx
  ne : dx ≠ x
  ns : h'.Ns1 dx mf
section
variable {prog : Program} {w : World} {A : Around} {R : Result → Shared → Prop} {s : Shared} {K : Frag} {mg : Str → Option Value} {C fI : Addr} {fam : Fam} {ps : List Str}
theorem sup_init (T : SupT prog K mg C fI fam ps) {x t0 : Addr} {us : List Value} (hl : us.length = ps.length) (h0 : ps ≠ []) (h8 : ps.length ≤ 800) (X : K.In s.heap) (G : s.heap.Ns mainGlobals mg) (Bt : ∃ mb, s.heap.Ns builtinsNs mb ∧ mb "super" = some (.type "super")) (hlim : s.heap.NoLimit)
    (hx : s.heap.get? x = some (excObj C t0 none .none)) (kx : K.lookup x = none) (hroom : A.depth < recursionLimit)
    (hq : ∀ h' tk dx t1, InitLeft s.heap h' x C dx t1 (putAll (fieldsV ps us) ps fun _ => none) → R (.ok (.ret .none)) { s with heap := h', toks := tk }) :
    codeAny (model prog w) A (.call (.ref fI) ⟨.ref x :: us, []⟩) R s := by
  obtain ⟨cd, hcd, hmro, hhd⟩ := T.mro
  obtain ⟨KF, FB⟩ := T.facts
  obtain ⟨cc, cda, oc, kV, doc, pm, ct, cl, ccl, od, an, cld, cdd, osl, csl, ccs, vs, file, tf, qual, prm, sc, ar, p0, p1, p2, p3, p4, e, r, ho, hco, hcell, hcode, hvs, hfile, htop, har, hself, ⟨sk, sco, sge⟩, ⟨nsup, ncls, nself⟩, ncell, nps, hst, hnd, hev, hbind⟩ := T.fn
  obtain ⟨mb, hB, hmb⟩ := Bt
  refine ks_codeAny_call_defAt hroom (X _ _ ho) rfl hlim (codeRec_of X hco) rfl (hbind s (.ref x) us hl) ncell (fun y hy => ?_) (fun h₁ hns k₁ => ?_) sco sge sk
  · rcases List.mem_cons.mp hy with rfl | hy
    · exact nself
    · exact (nps _ (List.of_mem_zip hy).1).1
  -- the ledger over all but the exception
  have X₁ : K.In h₁ := X.keeps k₁
  have xL : x ≠ s.heap.objs.size := Nat.ne_of_lt (Heap.lt_size hx)
  have Xg : K.In (hideAll s.heap [x]) := fun a o q => hideAll_get _ (X a o q) (by
    intro z
    have z : a = x := by simpa using z
    rw [z, kx] at q; cases q)
  have F1 : Fr (hideAll s.heap [x]) s.heap.objs.size h₁ (fun y => ((selfB (.ref x) ps us).reverse).lookup y) := ⟨hns, fun b o q => k₁ b o (of_hideAll _ q), Nat.le_of_eq (hideAll_size _ _)⟩
  have N1 : News (hideAll s.heap [x]) s.heap.objs.size h₁ [(x, excObj C t0 none .none)] := fun p hp => by
    have e : p = (x, excObj C t0 none .none) := by simpa using hp
    subst e
    exact ⟨k₁ _ _ hx, xL, hideAll_none _ (by simp)⟩
  have vself := lookup_self (us := us) (fun f hf => (nps f hf).2.2) (Value.ref x)
  have hse : ∀ env, starEach [e] env = (false, eval e env) :: starEach [] env := fun env => by rcases hev with ⟨z, j, p, rfl⟩ | ⟨y, p, rfl, hy⟩ <;> rfl
  -- super().__init__(e)
  refine ks_wpAt_execs_cons (ks_wpAt_Expr_any (ks_wpAt_MethodCall ?_ (mcall1 hnd (by rcases hev with ⟨z, j, p, rfl⟩ | ⟨y, p, rfl, hy⟩ <;> rfl))) (by unfold interactive; simp [callEnv, newEnv, sk]) (by rcases hev with ⟨z, j, p, rfl⟩ | ⟨y, p, rfl, hy⟩ <;> rfl))
  refine ks_wpAt_super_base (env := ksEnv qual sc s.heap.objs.size fI (.ref cda) cc) nsup ncls rfl rfl (X₁ _ _ ho) rfl har rfl (X₁ _ _ hcode) rfl hvs hfile htop ?_
  refine ks_loadName_global sk nsup (loadGlobal_builtin (env := ksEnv qual sc s.heap.objs.size fI (.ref cda) cc) (G.keeps k₁) T.noS (hB.keeps k₁) hmb ⟨rfl, ?_⟩)
  refine wpAny_loadName_free sk ncls rfl ⟨_, X₁ _ _ hcell, rfl⟩ ?_
  rw [hself]
  refine wpAny_loadName_local sk nself hns vself ?_
  obtain ⟨oD, hD1, hD2⟩ : ∃ oD, h₁.get? C = some oD ∧ oD.data = .cls cd := by
    unfold clsIn at hcd
    split at hcd
    · rename_i hoC
      cases hcd
      exact ⟨_, X₁ _ _ hoC, rfl⟩
    · cases hcd
  refine ks_wpAny_isType_cls hD1 hD2 ⟨rfl, ?_⟩
  refine ks_wpAny_call_super hD1 hD2 (k₁ _ _ hx) rfl (fun c z => by cases z) (looks_mroIn X₁ T.mC) fun h₂ e₂ k₂ => ?_
  obtain ⟨F2, N2, l2⟩ := ks_newsPush (s := { s with heap := h₁, toks := s.toks + (selfB (.ref x) ps us).length }) (o := ks_superObj C x C) F1 N1 rfl e₂ k₂
  have I2 : InstAt h₂ x (excObj C t0 none .none) C none := ⟨(N2 (x, excObj C t0 none .none) (by simp)).1, rfl, rfl, trivial⟩
  refine kxs_method KF F2 Xg N2 (List.mem_cons_self) I2 T.op T.sup T.subB rfl fun u h₃ F3 N3 l3 => ?_
  refine kxs_callWith1 (i := fam.i) (u := u) (x := x) N3 List.mem_cons_self ?_ (hse _)
  refine spliced_more ?_ (hse _)
  -- the argument
  have arg : ∀ {Q : Value → Shared → Prop} {E : Value → Shared → Prop} (s₃ : Shared), s₃.heap = h₃ → (∀ v tk, Q v { s₃ with toks := tk }) →
      wpAny (model prog w) (A.deeper (ksEnv qual sc s.heap.objs.size fI (.ref cda) cc)) (eval e (ksEnv qual sc s.heap.objs.size fI (.ref cda) cc)) Q E s₃ := fun {Q E} s₃ es hQ => by
    rcases hev with ⟨z, j, p, rfl⟩ | ⟨y, p, rfl, hy⟩
    · exact Calls.Constant_str (hQ _ _)
    · have o := nps y hy
      exact wpAny_Name (wpAny_loadName_local sk o.1 (by rw [es]; exact F3.ns) (lookup_zip hl hy o.2.2 _) (hQ _ s₃.toks)) o.2.1
  refine arg _ rfl fun v tk => spliced_none ⟨kxs_at N3 List.mem_cons_self, ?_⟩
  have ux : u ≠ x := fun z => Nat.lt_irrefl _ (by have := l3 (x, excObj C t0 none .none) (by simp); rw [z] at this; exact this)
  have sx : (s.heap.objs.size + 0 : Nat) = s.heap.objs.size := rfl
  obtain ⟨so, hso, sox⟩ : ∃ so, ((so, ks_superObj C x C) : Addr × Obj) = (h₁.objs.size, ks_superObj C x C) ∧ so ≠ x := ⟨_, rfl, Nat.ne_of_gt (Heap.lt_size (k₁ _ _ hx))⟩
  cases hso
  refine kxs_call (nw := fun o => [(u, kxs_mw fam.i x), (h₁.objs.size, ks_superObj C x C), (x, o)]) F3 Xg N3 FB T.exI List.mem_cons_self (.tail ux (.tail sox (.head fun p hp => by cases hp))) (by show 1 ≤ sizeLine; decide) fun t' h₄ F4 N4 l4 => ?_
  -- the fields
  show _root_.PySem.wpAt _ _ _ (execs r _) _ _ _
  cases ps with
  | nil => exact absurd rfl h0
  | cons f fs =>
  have hx4 := (N4 (x, excObj C t' none .none) (by simp)).1
  refine wpAt_of_wpAny (stores_all (m := fun y => ((selfB (.ref x) (f :: fs) us).reverse).lookup y) (val := fieldsV (f :: fs) us) hst sk hcd hmro hhd T.sa nself vself (fun y hy => ⟨(nps y hy).1, (nps y hy).2.1, lookup_zip hl hy (nps y hy).2.2 _, T.no y hy⟩)
    (Xg.keeps F4.keep) F4.ns hx4 kx (Ne.symm xL) (by simp at h8; omega) fun h' tk' dx k dn dne hx' hd => ?_)
  refine hq h' tk' dx t' ⟨fun b o hb q => k b o hb (F4.keep b o (hideAll_get _ q (by simpa using hb))), hx', ?_, dne, hd⟩
  have z : s.heap.objs.size < h₄.objs.size := F4.ns.lt
  exact Nat.le_of_lt (Nat.lt_of_lt_of_le z dn)
/-- a made exception -/
structure MadeOwn (h h' : Heap) (e C d : Addr) (mf : Str → Option Value) : Prop where
  keep : ∀ b o, h.get? b = some o → h'.get? b = some o
  new : h.objs.size ≤ e
  obj : ∃ t1 : Addr, h'.get? e = some { cls := .ref C, dict := some d, data := .fields #[.ref t1, .none, .none, .none, .bool false, .none] }
  big : h.objs.size ≤ d
  ne : d ≠ e
  ns : h'.Ns1 d mf
theorem sup_made (T : SupT prog K mg C fI fam ps) {us : List Value} (hl : us.length = ps.length) (h0 : ps ≠ []) (h8 : ps.length ≤ 800) (X : K.In s.heap) (G : s.heap.Ns mainGlobals mg) (Bt : ∃ mb, s.heap.Ns builtinsNs mb ∧ mb "super" = some (.type "super")) (hlim : s.heap.NoLimit)
    (hroom : A.depth + 1 < recursionLimit) (hq : ∀ h' tk e d, MadeOwn s.heap h' e C d (putAll (fieldsV ps us) ps fun _ => none) → R (.ok (.ret (.ref e))) { s with heap := h', toks := tk }) :
    codeAny (model prog w) A (.call (.ref C) ⟨us, []⟩) R s := by
  obtain ⟨KF, FB⟩ := T.facts
  obtain ⟨nm, N, qn, bs, bm, hd, sn, sub, ab, col, dd, k0, k1, k2, k3, k5, hC, hT⟩ := excInit_of X T.exI
  obtain ⟨hp, g, dr, tk, os⟩ := s
  have kk : ∀ b o, hp.get? b = some o → ((hp.push (kdv_tup us)).push (HandSPX.excO C hp.objs.size)).get? b = some o := fun b o e => Heap.get?_push_of_some _ (Heap.get?_push_of_some _ e)
  have he : ((hp.push (kdv_tup us)).push (HandSPX.excO C hp.objs.size)).get? (hp.objs.size + 1) = some (HandSPX.excO C hp.objs.size) := by heap_get
  have hnx : K.lookup (hp.objs.size + 1) = none := by
    cases q : K.lookup (hp.objs.size + 1) with
    | none => rfl
    | some o =>
      have z : hp.objs.size + 1 < hp.objs.size := Heap.lt_size (show hp.get? (hp.objs.size + 1) = some o from X _ _ q)
      omega
  have hz : us.length ≤ sizeLine := by rw [hl, sizeLine_eq]; omega
  obtain ⟨mb, hB, hmb⟩ := Bt
  refine HandSPX.call_own FB hT hC (looks_findIn X T.iC) (fun self => bind_fn X self T.tC) hz ?_
  refine sup_init (s := ⟨(hp.push (kdv_tup us)).push (HandSPX.excO C hp.objs.size), g, dr, tk, os⟩) T hl h0 h8 (X.keeps kk) (G.keeps kk) ⟨mb, hB.keeps kk, hmb⟩ (hlim.keeps kk) he hnx (show A.depth + 1 < recursionLimit from hroom) fun h' tk' dx t1 L => ⟨rfl, ?_⟩
  have big : hp.objs.size + 1 + 1 ≤ dx := by have z := L.big; simpa only [Heap.size_push] using z
  refine hq h' tk' (hp.objs.size + 1) dx ⟨fun b o e => L.keep b o (Nat.ne_of_lt (Nat.lt_succ_of_lt (Heap.lt_size e))) (kk b o e), Nat.le_succ _, ⟨t1, L.obj⟩, by show hp.objs.size ≤ dx; omega, L.ne, L.ns⟩
end
/-- the fields, as they lie -/
abbrev fldL {α : Type} (ps : List Str) (vs : List α) : List (Str × α) := (ps.zip vs).reverse
theorem putAll_in {val : Str → Value} {f : Str} : ∀ {fs : List Str} {m : Str → Option Value}, f ∈ fs ∨ m f = some (val f) → putAll val fs m f = some (val f)
  | [], m, h => h.resolve_left (by simp)
  | g :: fs, m, h => by
    rw [putAll]
    refine putAll_in ?_
    by_cases e : f = g
    · subst e; exact .inr (by simp)
    · rcases h with h | h
      · exact .inl ((List.mem_cons.mp h).resolve_left e)
      · exact .inr (by simp [e, h])
theorem putAll_out {val : Str → Value} {f : Str} : ∀ {fs : List Str} {m : Str → Option Value}, f ∉ fs → putAll val fs m f = m f
  | [], m, _ => rfl
  | g :: fs, m, h => by
    rw [putAll, putAll_out (fun z => h (List.mem_cons_of_mem _ z))]
    exact if_neg fun e => h (by simp [e])
theorem fld_rel {f : Str} : ∀ {l : List (Str × V)} {l' : List (Str × Value)}, Paired (fun p q => p.1 = q.1 ∧ RelV p.2 q.2) l l' → RelO (l.lookup f) (l'.lookup f)
  | _, _, .nil => trivial
  | _, _, .cons (a := a) (b := b) h t => by
    obtain ⟨h1, h2⟩ := h
    have ih := fld_rel (f := f) t
    obtain ⟨n, v⟩ := a
    obtain ⟨n', u⟩ := b
    have h1 : n = n' := h1
    subst h1
    simp only [List.lookup]
    split
    · exact h2
    · exact ih
theorem fld_pair {vs : List V} {us : List Value} (r : Vals vs us) : ∀ (ps : List Str), Paired (fun (p : Str × V) (q : Str × Value) => p.1 = q.1 ∧ RelV p.2 q.2) (ps.zip vs) (ps.zip us) := by
  induction r with
  | nil => intro ps; cases ps <;> exact .nil
  | cons h t ih =>
    intro ps
    cases ps with
    | nil => exact .nil
    | cons p ps => exact .cons ⟨rfl, h⟩ (ih ps)
theorem fld_at {vs : List V} {us : List Value} {ps : List Str} (r : Vals vs us) (hl : us.length = ps.length) (f : Str) : RelO ((fldL ps vs).lookup f) (putAll (fieldsV ps us) ps (fun _ => none) f) := by
  have q := fld_rel (f := f) (Pd.rev (fld_pair r ps))
  by_cases hf : f ∈ ps
  · rw [putAll_in (.inl hf)]
    have e : ((ps.zip us).reverse).lookup f = some (fieldsV ps us f) := by
      have hm : ∃ v, ((ps.zip us).reverse).lookup f = some v := by
        have key : ∀ {l : List (Str × Value)}, f ∈ l.map (·.1) → ∃ v, l.lookup f = some v := by
          intro l
          induction l with
          | nil => intro h; simp at h
          | cons p l ih =>
            intro h
            simp only [List.lookup]
            split
            · exact ⟨_, rfl⟩
            · rename_i hne
              refine ih ?_
              have hne : ¬ f = p.1 := by simpa using hne
              exact (List.mem_cons.mp h).resolve_left hne
        refine key ?_
        rw [List.map_reverse, List.mem_reverse, List.map_fst_zip (by omega)]
        exact hf
      obtain ⟨v, hv⟩ := hm
      rw [hv]
      simp [fieldsV, hv]
    rw [e] at q
    exact q
  · rw [putAll_out hf]
    have e : ((ps.zip us).reverse).lookup f = none := by
      have key : ∀ {l : List (Str × Value)}, f ∉ l.map (·.1) → l.lookup f = none := by
        intro l
        induction l with
        | nil => intro _; rfl
        | cons p l ih =>
          intro h
          simp only [List.map_cons, List.mem_cons, not_or] at h
          have q : (f == p.1) = false := by simpa using h.1
          simp only [List.lookup, q]
          exact ih h.2
      refine key ?_
      rw [List.map_reverse, List.mem_reverse, List.map_fst_zip (by omega)]
      exact hf
    rw [e] at q
    exact q
/-- the shape of such an __init__ -/
structure InitShape (ps : List Str) (stm : Stmt) : Prop where
  body : ∃ (p0 p1 p2 p3 p4 : Pos) (e : Expr) (r : List Stmt), defBody stm = .Expr (.Call (.Attribute (.Call (.Name "super" p0) [] [] p1) "__init__" p2) [e] [] p3) p4 :: r ∧ Stores ps r ∧ (p2.endLine == p3.line) = true ∧ ((∃ z j p, e = .Constant (.str z) j p) ∨ (∃ y p, e = .Name y p ∧ y ∈ ps))
  arg : ∃ ar, ((defArgs stm).posonlyargs ++ (defArgs stm).args).head? = some ar ∧ ar.arg = "self"
  kind : (defScope stm).kind = .function ∧ (defScope stm).isCoroutine = false ∧ (defScope stm).isGenerator = false
  names : (defScope stm).names.lookup ("super" : Str) = some .globalImplicit ∧ (defScope stm).names.lookup ("__class__" : Str) = some .free ∧ (defScope stm).names.lookup ("self" : Str) = some .local
  cells : ∀ y ∈ (defScope stm).names, y.2 ≠ .cell
  par : ∀ f ∈ ps, (defScope stm).names.lookup f = some .local ∧ (f == ("__debug__" : Str)) = false ∧ f ≠ "self"
  bind : ∀ (qual : Str) (kV doc pm : Value) (an : Option Addr) (cdv ct : Value) (cc : Addr) (x : Value) (us : List Value), us.length = ps.length → bindArgs (ksFn "__init__" qual (defArgs stm) (defBody stm) (defScope stm) .none kV doc pm an cdv ct cc) ⟨x :: us, []⟩ = pure (selfB x ps us)
def famOf (ve : Bool) : Fam := if ve then famV else famE
def famOk (ve : Bool) (K : Frag) (C : Addr) : Bool := (clsIn K C).any fun cd => cd.hasDict && (if ve then HandSPX.refsVE cd.mro else decide (cd.mro = .ref C :: ESX.exTail))
theorem famOk_of {ve : Bool} {K : Frag} {C : Addr} (h : famOk ve K C = true) : ∃ cd, clsIn K C = some cd ∧ (famOf ve).mro C cd.mro ∧ cd.hasDict = true := by
  unfold famOk at h
  cases q : clsIn K C with
  | none => rw [q] at h; cases h
  | some cd =>
    rw [q] at h
    have h : (cd.hasDict && (if ve then HandSPX.refsVE cd.mro else decide (cd.mro = .ref C :: ESX.exTail))) = true := h
    rw [Bool.and_eq_true] at h
    refine ⟨cd, rfl, ?_, h.1⟩
    cases ve with
    | true => exact .inl ⟨rfl, h.2⟩
    | false => exact .inr ⟨rfl, of_decide_eq_true h.2⟩
theorem famOf_facts (ve : Bool) : KxsFacts (famOf ve).B (famOf ve).i ∧ ExcBaseFacts (famOf ve).B (famOf ve).newId (famOf ve).i (famOf ve).bmB := by
  cases ve with
  | true => exact ⟨kxs_ValueError, PySem.F.excBase_ValueError⟩
  | false => exact ⟨kxs_Exception, PySem.F.excBase_Exception⟩
theorem SupT.mk' {prog : Program} {K : Frag} {mg : Str → Option Value} {C fI cc cda : Addr} {ve : Bool} {ps : List Str} {stm : Stmt} {oc kV doc pm ct cl ccl : Value} {od an cld cdd : Option Addr} {osl csl ccs : Array (Option Value)} {vs : Array Value} {file : Str} {tf : Tok} {qual : Str}
    (sh : InitShape ps stm) (c1 : famOk ve K C = true) (sa : findIn K (.ref C) "__setattr__" = some (some (.builtin "object.__setattr__"))) (no : ∀ f ∈ ps, findIn K (.ref C) f = some none)
    (iC : findIn K (.ref C) "__init__" = some (some (.ref fI))) (tC : typeIn K (.ref fI) = some (.type "function")) (kC : keepIn K (.ref C) = true) (exC : subIn K (.ref C) (.type "BaseException") = some true) (tyC : typeIn K (.ref C) = some (.type "type"))
    (sup : ks_superIn K C C "__init__" = some (some (.builtin (famOf ve).i))) (subB : subIn K (.ref C) (.type (famOf ve).B) = some true) (mC : mroIn K C (.ref C) = some true) (exI : excInitIn K C (famOf ve).bmB (famOf ve).newId = true) (op : nsIn K cStatics "thirdparty.any" = some none) (noS : mg "super" = none)
    (l : K.lookup fI = some ⟨oc, od, .func (ksFn "__init__" qual (defArgs stm) (defBody stm) (defScope stm) .none kV doc pm an (.ref cda) ct cc), osl⟩) (co : codeIn K (.ref cda) qual = true) (ce : K.lookup cc = some ⟨cl, cld, .cell (some (.ref C)), csl⟩) (cd' : K.lookup cda = some ⟨ccl, cdd, .fields vs, ccs⟩)
    (hv : vs[2]? = some (.str file tf)) (hf : ((prog.main.file : Str) == file) = true) (ht : (prog.main.scope.names.lookup ("super" : Str)).isSome = false) : SupT prog K mg C fI (famOf ve) ps := by
  obtain ⟨p0, p1, p2, p3, p4, e, r, eb, hst, hnd, hev⟩ := sh.body
  obtain ⟨ar, har, hself⟩ := sh.arg
  have hb := sh.bind
  rw [eb] at l hb
  exact ⟨famOk_of c1, sa, no, iC, tC, kC, exC, tyC, sup, subB, mC, exI, op, noS, famOf_facts ve, cc, cda, oc, kV, doc, pm, ct, cl, ccl, od, an, cld, cdd, osl, csl, ccs, vs, file, tf, qual, defArgs stm, defScope stm, ar, p0, p1, p2, p3, p4, e, r, l, co, ce, cd', hv, hf, ht, har, hself, sh.kind, sh.names, sh.cells, sh.par, hst, hnd, hev,
    fun s x us hl => .of_eq (hb qual kV doc pm an (.ref cda) ct cc x us hl)⟩
section
variable {X : Cx} {C fI : Addr} {fam : Fam} {ps : List Str} {nm : Str}
/-- C(..) -/
def tMkS (C : Addr) (ps : List Str) (ta : TA) : L2.St → Hp → XK → Prop := fun σ H Q => ta σ H fun vs H1 => vs.length = ps.length ∧ ∀ d, H1 d = none → Q (.ref C) (some d) (upd H1 d (.xd (fldL ps vs)))
theorem pmk_sup {a : Expr} {es : List Expr} {ta : TA} {p pos : Pos} {k : Nat} (T : SupT X.prog X.K X.mg C fI fam ps) (h0 : ps ≠ []) (h8 : ps.length ≤ 800) (hm : X.mg nm = some (.ref C)) (hg : Gl X nm) (hdb : (nm == ("__debug__" : Str)) = false) (hr : Room k X.A) (ha : PA X (a :: es) ta)
    (hst : starEach (a :: es) X.env = (false, eval a X.env) :: starEach es X.env) (hpl : (backTo pos (starEach es X.env)).any (·.1) = false) : PMk X (.Call (.Name nm p) (a :: es) [] pos) (tMkS C ps ta) := by
  intro pins s σ H Q I h
  refine wpAny_Call_Name_kw (ld_glob I hg hm ?_ hdb)
  refine callWith_K (h₀ := X.base) I.ok.mod.kin T.kC (thn (ha.run pos pins s σ H _ I h) fun us s1 ⟨vs, H1, I1, r1, hl, q1⟩ => ⟨I1.kIn, ?_⟩) hst hpl
  have hlu : us.length = ps.length := by rw [← r1.length]; exact hl
  show wpAny _ _ (call (.ref C) us) _ _ _
  have hlim := I1.nolimit
  obtain ⟨mb, hB, hmb⟩ := I1.mod.blt
  have hB1 := hB.keeps I1.bk
  have hG1 := I1.mod.glob.keeps I1.bk
  obtain ⟨hp, g, dr, tk, os⟩ := s1
  refine wpAny_call (sup_made T hlu h0 h8 I1.kIn hG1 ⟨mb, hB1, (hmb "super" (by decide)).trans rfl⟩ hlim (by have := hr.dp; omega) fun h' tk' e d M => ?_)
  show MkP X pins σ Q (.ref e) ⟨h', g, dr, tk', os⟩
  obtain ⟨t1, hoe⟩ := M.obj
  obtain ⟨G', g1, g2⟩ := restrict h' fun b => decide (b ≠ e)
  have gk : ∀ b, b ≠ e → G'.get? b = h'.get? b := fun b hb => g1 b (decide_eq_true hb)
  have ge : G'.get? e = none := g2 e (by simp)
  have old : ∀ b o, hp.get? b = some o → G'.get? b = some o := fun b o q => (gk b (Nat.ne_of_lt (Nat.lt_of_lt_of_le (Heap.lt_size q) M.new))).trans (M.keep b o q)
  have ob : ObjOk X.prog X.w (upd H1 d (.xd (fldL ps vs))) G' d (.xd (fldL ps vs)) := ⟨_, M.ns.at fun o q => (gk d M.ne).trans q, fld_at r1 hlu⟩
  have J : Inv X pins σ (upd H1 d (.xd (fldL ps vs))) ⟨G', g, dr, tk', os⟩ := I1.laid (t' := tk') old M.big ob
  refine ⟨e, _, _, ⟨G', g, dr, tk', os⟩, _, .ref C, some d, rfl, J, fun b o q => ?_, ge, hoe, ⟨rfl, rfl⟩, rfl, rfl, ?_, rfl, I1.bare, raises_own T.exC T.tyC, q1 d (I1.hok.fresh M.big)⟩
  · by_cases hb : b = e
    · have q : G'.get? b = some o := q
      rw [hb, ge] at q; cases q
    · exact (gk b hb).symm.trans q
  · rw [upd_ne (Ne.symm M.ne)]
    exact I1.hok.fresh M.new
end
theorem mem1 {P : Str → Prop} {a : Str} (h : P a) : ∀ f ∈ [a], P f := fun f hf => by
  have e : f = a := by simpa using hf
  rw [e]; exact h
theorem mem2 {P : Str → Prop} {a b : Str} (h : P a) (h' : P b) : ∀ f ∈ [a, b], P f := fun f hf => by
  have e : f = a ∨ f = b := by simpa using hf
  rcases e with e | e <;> rw [e] <;> assumption
/-- a class's statements -/
def clsBody : Stmt → List Stmt
  | .ClassDef _ _ _ b _ _ _ _ _ _ _ => b
  | _ => []
end Dv

namespace Dv
open PySem PySem.Spec L2

/-! ### the small language -/
inductive CO where | eq | ne | lt | le | gt | ge | is | isnot | in_ | notin
  deriving DecidableEq
def CO.op : CO → CmpOp
  | .eq => .Eq | .ne => .NotEq | .lt => .Lt | .le => .LtE | .gt => .Gt | .ge => .GtE | .is => .Is | .isnot => .IsNot | .in_ => .In | .notin => .NotIn
def CO.g : CO → D → D → Option D
  | .eq => dEq | .ne => dNe | .lt => dLt | .le => dLe | .gt => dGt | .ge => dGe | .is => dIsN | .isnot => dNotN | .in_ => dIn | .notin => dNotIn
inductive BO where | add | sub | mul | mod | div | pow
  deriving DecidableEq
def BO.op : BO → Operator
  | .add => .Add | .sub => .Sub | .mul => .Mult | .mod => .Mod | .div => .FloorDiv | .pow => .Pow
def BO.g : BO → D → D → Option D
  | .add => dAddL | .sub => dSub | .mul => dMulL | .mod => dMod | .div => dDiv | .pow => dPow
/-- built-in functions of data -/
inductive BF where | len | sum | max2 | min2 | int1 | tuple1 | min1 | max1
  deriving DecidableEq
/-- built-in functions that make a list -/
inductive BL where | list1 | sorted1
  deriving DecidableEq

/-- what an except suite returns: a field of the exception, a constant; one, or a tuple of them -/
inductive XV where
  | fld (f : Str) | str (x : Str) | bl (b : Bool) | non | int (i : Int)
inductive XR where
  | one (v : XV) | tup (vs : List XV)
/-- what the test of an except suite compares with: a text, a slot's datum -/
inductive XW where
  | str (x : Str) | var (i : Nat)
inductive CG where
  | name (i : Nat) | tup (is : List Nat)
  /-- (x, (y, ..)) -/
  | nst (i : Nat) (is : List Nat)
mutual
inductive CE where
  | var (i : Nat) | glo (x : Str) | int (i : Int) | str (x : Str) | bl (b : Bool) | non
  | bin (o : BO) (a b : CE) | neg (a : CE)
  | cmp (o : CO) (a b : CE) | chain (o o' : CO) (a b c : CE) | chain3 (o o' o'' : CO) (a b c d : CE)
  | and_ (a b : CE) | or_ (a b : CE) | not_ (a : CE) | orV (a b : CE)
  | ite (t : CT) (a b : CE)
  | tup (es : CEs) | fr (f : CF)
  | call (f : Str) (es : CEs) | callIO (f : Str) (i : Nat) (es : CEs)
  | bf (b : BF) (es : CEs) | isi (a : CE) (ty : String)
  | item (a b : CE) | itemO (i : Nat) (b : CE) | lenO (i : Nat) | inO (neg : Bool) (a : CE) (i : Nat)
  | slice (a : CE) (lo hi : CEo)
  | rev (a : CE)
  | lenset (a : CE) | cnt (a b : CE)
  /-- f(a, l, b), l a list of one's own that stays one's own -/
  | lend (f : Str) (a : CE) (i : Nat) (b : CE)
  | getD (i : Nat) (b : CE) | hasD (neg : Bool) (a : CE) (i : Nat) | orD (i : Nat) (b x : CE)
  | fld (cls : Str) (i : Nat) (f : Str) | meth (cls m f : Str) (i : Nat) (es : CEs)
  | qnt (stp : Bool) (own : List (Str × Nat)) (t : CG) (it : CI) (c : CTo) (elt : CE)
inductive CT where
  | val (a : CE) | cmp (o : CO) (a b : CE) | chain (o o' : CO) (a b c : CE) | chain3 (o o' o'' : CO) (a b c d : CE) | not_ (t : CT) | and_ (a b : CT) | or_ (a b : CT) | inO (neg : Bool) (a : CE) (i : Nat) | hasD (neg : Bool) (a : CE) (i : Nat)
inductive CF where
  | sortK (ky : Ky) (y : Str) (a : CE)
  | lst (es : CEs) | lc (own : List (Str × Nat)) (t : CG) (it : CI) (c : CTo) (elt : CE) | cat (a b : CE) | bl (b : BL) (a : CE) | call (f : Str) (es : CEs) | rep (es : CEs) (k : Int) | repE (es : CEs) (e : CE)
  /-- an empty dict; a dict's keys -/
  | dnew | keysD (i : Nat) | sortD (i : Nat)
  /-- list(x) of a list of one's own, which stays one's own -/
  | listO (i : Nat)
  /-- a comprehension over a dict -/
  | lcD (own : List (Str × Nat)) (i : Nat) (t : CG) (c : CTo) (elt : CE)
  /-- over a dict's items -/
  | lcP (own : List (Str × Nat)) (i : Nat) (t : CG) (c : CTo) (elt : CE)
  /-- a comprehension of two fors -/
  | lc2 (own : List (Str × Nat)) (t : CG) (it : CI) (t1 : CG) (it1 : CI) (elt : CE)
  /-- what a slot owns is given away -/
  | give (i : Nat)
inductive CI where
  | seq (a : CE) | rng1 (a : CE) | rng2 (a b : CE) | zip (a b : CE)
inductive CEs where
  | nil | cons (a : CE) (r : CEs)
inductive CEo where
  | none | some (a : CE)
inductive CTo where
  | none | some (t : CT)
end
mutual
inductive CS where
  | set (i : Nat) (e : CE) | own (i : Nat) (f : CF) | unpack (is : List Nat) (e : CE)
  | append (i : Nat) (e : CE) | extend (i : Nat) (f : CF) | extE (i : Nat) (e : CE) | setI (i : Nat) (k e : CE) | setD (i : Nat) (k e : CE)
  | ret (e : CE) | retF (f : CF) | retN | expr (e : CE) | if_ (t : CT) (a b : CSs) | for_ (t : CG) (it : CI) (b : CSs) | while_ (t : CT) (b : CSs) | pass | brk | cont | stuck
  | raise_ (cls : Str) (ps : List Str) (es : CEs) | try_ (cls : Str) (n : Option Nat) (b : CSs) (r : XR)
  /-- except cls as n: if (n.f, ..) != (.., ..): return False -/
  | tryI (cls : Str) (n : Nat) (b : CSs) (vs : List XV) (ws : List XW)
  /-- except base as n: if not isinstance(n, cls): return None; return (n.f, ..) -/
  | tryB (base cls : Str) (n : Nat) (b : CSs) (vs : List XV)
  | setF (cls : Str) (i : Nat) (f : Str) (e : CE) | newO (i : Nat) (cls f : Str) (es : CEs)
  | ret3 (a b : CE) (k : Nat) | unp3 (i j k : Nat) (f : Str) (es : CEs)
inductive CSs where
  | nil | cons (a : CS) (r : CSs)
end

/-! ### its meaning on data -/
abbrev RunF := Str → Option Ow → List D → FR
structure Cfg where
  run : List RunF
  con : Str → Option D
  io : Bool

def dLen : D → Option D
  | .list xs => some (.int xs.length)
  | .tuple xs => some (.int xs.length)
  | .str z => if z.length ≤ sizeLine then some (.int z.length) else none
  | _ => none
def ints? : List D → Option (List Int)
  | [] => some []
  | .int i :: r => (ints? r).map (i :: ·)
  | _ => none
def dSum : D → Option D
  | .list xs => (ints? xs).map fun ns => .int ns.sum
  | .tuple xs => (ints? xs).map fun ns => .int ns.sum
  | _ => none
def dTuple : D → Option D
  | .list xs => some (.tuple xs)
  | .tuple xs => some (.tuple xs)
  | _ => none
def dInt : D → Option D
  | .int i => some (.int i)
  | .bool b => some (.int (if b then 1 else 0))
  | _ => none
def dListOf : D → Option (List D)
  | .list xs => some xs
  | .tuple xs => some xs
  | _ => none
def allAlike (xs : List D) : Bool := xs.all fun a => xs.all fun b => PySem.W.alike a b
def one {α : Type} (f : D → Option α) : List D → Option α
  | [a] => f a
  | _ => none
def two {α : Type} (f : D → D → Option α) : List D → Option α
  | [a, b] => f a b
  | _ => none
def dMax : D → D → Option D
  | .int i, .int j => some (.int (if j > i then j else i))
  | _, _ => none
/-- the first of the least, of the greatest: of data that can all be compared -/
def dPick (g : List D → D) (xs : List D) : Option D := if allAlike xs && !xs.isEmpty && decide (PyData.depthAll xs ≤ 60) && xs.all notNone then some (g xs) else none
def minL : List D → D | x :: xs => PySem.W.minD x xs | [] => .none
def maxL : List D → D | x :: xs => PySem.W.maxD x xs | [] => .none
def dMin : D → D → Option D
  | .int i, .int j => some (.int (if j < i then j else i))
  | a, b => dPick minL [a, b]
def dMin1 : D → Option D
  | .list xs => dPick minL xs
  | .tuple xs => dPick minL xs
  | _ => none
def dMax1 : D → Option D
  | .list xs => dPick maxL xs
  | .tuple xs => dPick maxL xs
  | _ => none
def BF.g : BF → List D → Option D
  | .len => one dLen
  | .sum => one dSum
  | .max2 => two dMax
  | .min2 => two dMin
  | .int1 => one dInt
  | .tuple1 => one dTuple
  | .min1 => one dMin1
  | .max1 => one dMax1
def sortable (xs : List D) : Bool := xs.all (fun d => match d with | .tuple (_ :: _) => true | _ => false) || xs.all (fun d => match d with | .none => false | .tuple _ => false | _ => true)
def dSorted : D → Option (List D)
  | .list xs => if allAlike xs && sortable xs && decide (PyData.depthAll xs ≤ 60) then some (xs.mergeSort (PySem.W.dataLe false id)) else none
  | .tuple xs => if allAlike xs && sortable xs && decide (PyData.depthAll xs ≤ 60) then some (xs.mergeSort (PySem.W.dataLe false id)) else none
  | _ => none
/-- the keys of a dict in their order; one empty tuple alone is in order -/
def dSortDc (ks : List D) : Option (List D) := match ks with
  | [.tuple []] => some [.tuple []]
  | ks => dSorted (.list ks)
def keyD (ky : Ky) (d : D) : D := (kyE ky d).getD .none
def dSortK (ky : Ky) : D → Option (List D)
  | .list xs => if (xs.all fun d => (kyE ky d).isSome && nolD d) && allAlike (xs.map (keyD ky)) && sortable (xs.map (keyD ky)) && decide (PyData.depthAll (xs.map (keyD ky)) ≤ 60) then some (xs.mergeSort (PySem.W.dataLe false (keyD ky))) else none
  | _ => none
def strsOf : List D → Option (List Str)
  | [] => some []
  | .str z :: r => (strsOf r).map fun zs => z :: zs
  | _ => none
def dLenSet : D → Option D
  | .tuple ds => match strsOf ds with
    | some zs => if zs.length ≤ 100 then some (.int (dd zs).length) else none
    | none => match ints? ds with
      | some ns => if ns.length ≤ 100 then some (.int (ddI ns).length) else none
      | none => none
  | _ => none
def dRev : D → Option D
  | .tuple xs => some (.tuple xs.reverse)
  | .list xs => some (.list xs.reverse)
  | _ => none
def BL.g : BL → D → Option (List D)
  | .list1 => dListOf
  | .sorted1 => dSorted
def tyName : D → String
  | .none => "NoneType" | .bool _ => "bool" | .int _ => "int" | .str _ => "str" | .list _ => "list" | .tuple _ => "tuple" | .dict _ => "dict"
/-- whether data count as true -/
def dTru : D → Option Bool
  | .none => some false
  | .bool b => some b
  | .int i => some (i != 0)
  | .str z => if z.length ≤ sizeLine then some ((z.length : Int) != 0) else none
  | .tuple xs => some (!xs.isEmpty)
  | .list xs => some (!xs.isEmpty)
  | .dict _ => none
/-- how often something stands in a list of data -/
def dCount (a d : D) : Option D := match a with
  | .list xs => if min (PyData.depthAll xs) d.depth ≤ 60 then some (.int ((xs.countP fun y => PyData.eqv y d : Nat) : Int)) else none
  | _ => none
def isLs : D → Bool
  | .list _ => true
  | _ => false
def dIsi (a : D) (ty : String) : Option D := (kitB (tyName a) ty).map .bool

def evVar (c : Cfg) (i : Nat) (S : Sto) : Res D := match S[i]? with
  | some (.fro d) => .ok d S
  | some (.own o) => if c.io && i == 0 then .bad else if o.isLst then .ok o.datum (S.set i (.fro o.datum)) else .bad
  | _ => .bad
/-- what stands at a slot, looked at alone -/
def peek (S : Sto) (i : Nat) : Option D := match S[i]? with
  | some (.fro d) => some d
  | some (.own o) => if o.isLst then some o.datum else none
  | _ => none
def isOwn (S : Sto) (i : Nat) : Bool := match S[i]? with
  | some (.own _) => true
  | _ => false
def isOwnL (S : Sto) (i : Nat) : Bool := match S[i]? with
  | some (.own o) => o.isLst
  | _ => false
/-- a dict of one's own at a slot -/
def dctAt (S : Sto) (i : Nat) : Option (List (D × D)) := match S[i]? with
  | some (.own (.dct kvs)) => some kvs
  | some (.own (.dctw kvs)) => some kvs
  | _ => none
/-- the same where it may be written -/
def dctOwn (S : Sto) (i : Nat) : Option (List (D × D)) := match S[i]? with
  | some (.own (.dct kvs)) => some kvs
  | _ => none
def askKV {α : Type} (S : Sto) (i : Nat) (k : D) (f : Option D → Option α) : Option α := (dctAt S i).bind fun kvs => if keyOk kvs k = true then f (getKV kvs k) else none
/-- an object of the class whose fields do not hide the method -/
def isObj (S : Sto) (i : Nat) (cls m : Str) : Bool := match S[i]? with
  | some (.own (.obj k fs)) => decide (k = cls) && (fs.lookup m).isNone
  | _ => false
def putD (f : Str) (d : D) : List (Str × D) → List (Str × D)
  | [] => [(f, d)]
  | (g, x) :: r => if g = f then (g, d) :: r else (g, x) :: putD f d r
def callR (c : Cfg) (f : Str) (ds : List D) (S : Sto) : Res D := match c.run with
  | r :: _ => match r f none ds with
    | .ok d none => .ok d S
    | .exc x => .exc x S
    | _ => .bad
  | [] => .bad
mutual
/-- a datum without lists -/
def noLst : D → Bool
  | .tuple ds => noLsts ds
  | .list _ => false
  | .dict _ => false
  | _ => true
def noLsts : List D → Bool
  | [] => true
  | d :: ds => noLst d && noLsts ds
end
def lendR (c : Cfg) (f : Str) (i : Nat) (d1 d2 : D) (S : Sto) : Res D := match S[i]? with
  | some (.own (.lst ds)) => match callR c f [d1, .list ds, d2] S with
    | .ok d S' => if noLst d then .ok d S' else .bad
    | _ => .bad
  | _ => .bad
def callIOR (c : Cfg) (f : Str) (i : Nat) (ds : List D) (S : Sto) : Res D := match c.run with
  | r :: _ => match S[i]? with
    | some (.own o) => if o.isW then .bad else match r f (some o) ds with
      | .ok d (some o') => .ok d (S.set i (.own o'))
      | .exc x => .exc x (S.set i .no)
      | _ => .bad
    | _ => .bad
  | [] => .bad
/-- a new object: its __init__ is run -/
def newR (c : Cfg) (cls f : Str) (ds : List D) (S : Sto) : Res Ow := match c.run with
  | r :: _ => match r f (some (.obj cls [])) ds with
    | .ok .none (some o) => .ok o S
    | _ => .bad
  | [] => .bad
def callFR (c : Cfg) (f : Str) (ds : List D) (S : Sto) : Res Ow := match c.run with
  | r :: _ => match r f none ds with
    | .okF o => .ok o S
    | .exc x => .exc x S
    | _ => .bad
  | [] => .bad
def callTR (c : Cfg) (f : Str) (ds : List D) (S : Sto) : Res (D × D × Ow) := match c.run with
  | r :: _ => match r f none ds with
    | .okT a b o => .ok (a, b, o) S
    | .exc x => .exc x S
    | _ => .bad
  | [] => .bad
def setFro (S : Sto) : List Nat → List D → Option Sto
  | [], [] => some S
  | i :: r, d :: ds => setFro (S.set i (.fro d)) r ds
  | _, _ => none
/-- a target takes a datum -/
def bindG (c : Cfg) (t : CG) (d : D) (S : Sto) : Option Sto := match t with
  | .name i => if c.io && i == 0 then none else some (S.set i (.fro d))
  | .tup is => if c.io && is.contains 0 then none else match d with
    | .tuple ds => if ds.length = is.length then setFro S is ds else none
    | _ => none
  | .nst i is => if c.io && (i == 0 || is.contains 0) then none else match d with
    | .tuple [a, .tuple ds] => if ds.length = is.length then setFro (S.set i (.fro a)) is ds else none
    | _ => none
def asInt : D → Option Int
  | .int i => some i
  | _ => none
def asBool : D → Option Bool
  | .bool b => some b
  | _ => none
/-- the slots of a block's own names -/
def wipeS (S : Sto) : List Nat → Sto
  | [] => S
  | v :: vs => (wipeS S vs).set v .no
def unOwned (S : Sto) (vs : List Nat) : Bool := vs.all fun v => match S[v]? with
  | some (.own _) => false
  | _ => true
/-- back out of a block -/
def backS (S : Sto) (S' : Sto) : List Nat → Sto
  | [] => S'
  | v :: vs => (backS S S' vs).set v (S.getD v .no)
def rng (lo : Int) (n : Nat) : List D := (List.range n).map fun (k : Nat) => PyData.int (lo + (k : Int))
def range62 (i : Int) : Bool := decide (-(2 ^ 62) ≤ i ∧ i < 2 ^ 62)
/-- the turns of a comprehension -/
def lcL (vs : List Nat) (bind : D → Sto → Option Sto) (test : Sto → Res Bool) (elt : Sto → Res D) : List D → List D → Sto → Res (List D)
  | [], acc, S => .ok acc S
  | d :: ds, acc, S => match bind d S with
    | none => .bad
    | some S1 => (test S1).bind fun b S2 => if b then (elt S2).bind fun y S3 => if acc.length < sizeLine then lcL vs bind test elt ds (acc ++ [y]) (wipeS S3 vs) else .bad
        else lcL vs bind test elt ds acc (wipeS S2 vs)
/-- the turns of two fors: vs1 the inner target's slots -/
def lc2L (vs vs1 : List Nat) (bind : D → Sto → Option Sto) (it1 : Sto → Res (List D)) (bind1 : D → Sto → Option Sto) (elt : Sto → Res D) : List D → List D → Sto → Res (List D)
  | [], acc, S => .ok acc S
  | d :: ds, acc, S => match bind d S with
    | none => .bad
    | some S1 => (it1 S1).bind fun es S2 => (lcL vs1 bind1 (fun S => .ok true S) elt es acc (wipeS S2 vs1)).bind fun acc' S3 => lc2L vs vs1 bind it1 bind1 elt ds acc' (wipeS S3 vs)
def CG.slots : CG → List Nat
  | .name i => [i]
  | .tup is => is
  | .nst i is => i :: is
/-- the turns of any (stp true), all (stp false) -/
def qntL (vs : List Nat) (bind : D → Sto → Option Sto) (test : Sto → Res Bool) (elt : Sto → Res D) (stp : Bool) : List D → Sto → Res Bool
  | [], S => .ok (!stp) S
  | d :: ds, S => match bind d S with
    | none => .bad
    | some S1 => (test S1).bind fun b S2 => if b then (elt S2).bind fun y S3 => match asBool y with
        | some k => if k = stp then .ok stp (wipeS S3 vs) else qntL vs bind test elt stp ds (wipeS S3 vs)
        | none => .bad
      else qntL vs bind test elt stp ds (wipeS S2 vs)
/-- what a for walks -/
def dIter : D → Option (List D)
  | .list xs => some xs
  | .tuple xs => some xs
  | .str z => some (z.cps.toList.map fun c => .str ⟨#[c]⟩)
  | _ => none
/-- zip -/
def dZip : D → D → Option (List D)
  | .list xs, .list ys => some ((xs.zip ys).map fun p => .tuple [p.1, p.2])
  | .tuple xs, .tuple ys => some ((xs.zip ys).map fun p => .tuple [p.1, p.2])
  | _, _ => none
def Res.onX {α : Type} (r : Res α) (f : Sto → Sto) : Res α := match r with
  | .exc x S => .exc x (f S)
  | r => r
def Res.quiet {α : Type} : Res α → Res α
  | .exc _ _ => .bad
  | r => r

/-- a slot's object is given away -/
def giveR (io : Bool) (i : Nat) (S : Sto) : Res Ow := match S[i]? with
  | some (.own o) => if o.isW || (io && i == 0) then .bad else .ok o (S.set i .no)
  | _ => .bad
/-- out of a walk -/
def unwalk (i : Nat) (S : Sto) (ys : List D) : Res Ow := match S[i]? with
  | some (.own (.dctw kvs)) => .ok (.lst ys) (S.set i (.own (.dct kvs)))
  | _ => .bad
/-- a comprehension over a dict of one's own -/
def lcDR (io : Bool) (i : Nat) (el : D × D → D) (vs : List Nat) (bnd : D → Sto → Option Sto) (ft : Sto → Res Bool) (fe : Sto → Res D) (S : Sto) : Res Ow := match S[i]? with
  | some (.own (.dct kvs)) => if unOwned (S.set i (.own (.dctw kvs))) vs && !(io && vs.contains 0) then
      ((lcL vs bnd ft fe (kvs.map el) [] (wipeS (S.set i (.own (.dctw kvs))) vs)).quiet).bind fun ys S2 => unwalk i (backS (S.set i (.own (.dctw kvs))) S2 vs) ys
    else .bad
  | _ => .bad
mutual
def ev (c : Cfg) : CE → Sto → Res D
  | .var i, S => evVar c i S
  | .glo x, S => Res.of (c.con x) S
  | .int i, S => .ok (.int i) S
  | .str x, S => .ok (.str x) S
  | .bl b, S => .ok (.bool b) S
  | .non, S => .ok .none S
  | .bin o a b, S => (ev c a S).bind fun d1 S1 => (ev c b S1).bind fun d2 S2 => Res.of (o.g d1 d2) S2
  | .neg a, S => (ev c a S).bind fun d1 S1 => Res.of (dNeg d1) S1
  | .cmp o a b, S => (ev c a S).bind fun d1 S1 => (ev c b S1).bind fun d2 S2 => Res.of (o.g d1 d2) S2
  | .chain o o' a b e, S => (ev c a S).bind fun d1 S1 => (ev c b S1).bind fun d2 S2 => (Res.of ((o.g d1 d2).bind asBool) S2).bind fun k S3 => if k then (ev c e S3).bind fun d3 S4 => Res.of (o'.g d2 d3) S4 else .ok (.bool false) S3
  | .chain3 o o' o'' a b e z, S => (ev c a S).bind fun d1 S1 => (ev c b S1).bind fun d2 S2 => (Res.of ((o.g d1 d2).bind asBool) S2).bind fun k S3 => if k then (ev c e S3).bind fun d3 S4 => (Res.of ((o'.g d2 d3).bind asBool) S4).bind fun k' S5 => if k' then (ev c z S5).bind fun d4 S6 => Res.of (o''.g d3 d4) S6 else .ok (.bool false) S5 else .ok (.bool false) S3
  | .lend f a i b, S => if c.run.isEmpty then .bad else (ev c a S).bind fun d1 S1 => if isOwnL S1 i then (ev c b S1).bind fun d2 S2 => lendR c f i d1 d2 S2 else .bad
  | .cnt a b, S => (ev c a S).bind fun d1 S1 => if isLs d1 = true then (ev c b S1).bind fun d2 S2 => Res.of (dCount d1 d2) S2 else .bad
  | .and_ a b, S => (ev c a S).bind fun d1 S1 => (Res.of (asBool d1) S1).bind fun k S2 => if k then ev c b S2 else .ok (.bool false) S2
  | .or_ a b, S => (ev c a S).bind fun d1 S1 => (Res.of (asBool d1) S1).bind fun k S2 => if k then .ok (.bool true) S2 else ev c b S2
  | .not_ a, S => (ev c a S).bind fun d1 S1 => (Res.of (asBool d1) S1).bind fun k S2 => .ok (.bool (!k)) S2
  | .orV a b, S => (ev c a S).bind fun d1 S1 => (Res.of (dTru d1) S1).bind fun k S2 => if k then .ok d1 S2 else ev c b S2
  | .ite t a b, S => (evT c t S).bind fun k S1 => if k then ev c a S1 else ev c b S1
  | .tup es, S => (evs c es S).bind fun ds S1 => if ds.length ≤ sizeLine then .ok (.tuple ds) S1 else .bad
  | .fr f, S => (evF c f S).bind fun o S1 => if o.isLst then .ok o.datum S1 else .bad
  | .call f es, S => if c.run.isEmpty then .bad else (evs c es S).bind fun ds S1 => callR c f ds S1
  | .callIO f i es, S => if c.run.isEmpty || !(isOwn S i) then .bad else (evs c es S).bind fun ds S1 => callIOR c f i ds S1
  | .fld cls i f, S => match S[i]? with
    | some (.own (.obj k fs)) => if k = cls then Res.of (fs.lookup f) S else .bad
    | _ => .bad
  | .meth cls m f i es, S => if c.run.isEmpty || !(isObj S i cls m) then .bad else (evs c es S).bind fun ds S1 => if isObj S1 i cls m then callIOR c f i ds S1 else .bad
  | .bf b es, S => (evs c es S).bind fun ds S1 => Res.of (b.g ds) S1
  | .isi a ty, S => (ev c a S).bind fun d1 S1 => Res.of (dIsi d1 ty) S1
  | .item a b, S => (ev c a S).bind fun d1 S1 => (ev c b S1).bind fun d2 S2 => Res.of (dItem d1 d2) S2
  | .itemO i b, S => if (peek S i).isSome then (ev c b S).bind fun d2 S2 => Res.of ((peek S2 i).bind fun d1 => dItem d1 d2) S2 else .bad
  | .getD i b, S => if (dctAt S i).isSome then (ev c b S).bind fun k S1 => Res.of (askKV S1 i k id) S1 else .bad
  | .hasD neg a i, S => (ev c a S).bind fun k S1 => Res.of (askKV S1 i k fun o => some (.bool (o.isSome != neg))) S1
  | .orD i b x, S => if (dctAt S i).isSome then (ev c b S).bind fun k S1 => (ev c x S1).bind fun z S2 => Res.of (askKV S2 i k fun o => some (o.getD z)) S2 else .bad
  | .lenO i, S => Res.of ((peek S i).bind dLen) S
  | .inO neg a i, S => (ev c a S).bind fun d1 S1 => Res.of ((peek S1 i).bind fun d2 => (dInB neg d1 d2).map .bool) S1
  | .slice a lo hi, S => (ev c a S).bind fun d S1 => (evO c lo S1).bind fun l S2 => (evO c hi S2).bind fun h S3 => Res.of (dSlice d l h) S3
  | .lenset a, S => (ev c a S).bind fun d S1 => Res.of (dLenSet d) S1
  | .rev a, S => (ev c a S).bind fun d S1 => Res.of (dRev d) S1
  | .qnt stp own t it cc elt, S => (evI c it S).bind fun ds S1 => if unOwned S1 (own.map (·.2)) && !(c.io && (own.map (·.2)).contains 0) then
      ((qntL (own.map (·.2)) (bindG c t) (evC c cc) (ev c elt) stp ds (wipeS S1 (own.map (·.2)))).quiet).bind fun k S2 => .ok (.bool k) (backS S1 S2 (own.map (·.2)))
    else .bad
def evT (c : Cfg) : CT → Sto → Res Bool
  | .val a, S => (ev c a S).bind fun d S1 => Res.of (asBool d) S1
  | .cmp o a b, S => (ev c a S).bind fun d1 S1 => (ev c b S1).bind fun d2 S2 => Res.of ((o.g d1 d2).bind asBool) S2
  | .chain o o' a b e, S => (ev c a S).bind fun d1 S1 => (ev c b S1).bind fun d2 S2 => (Res.of ((o.g d1 d2).bind asBool) S2).bind fun k S3 => if k then (ev c e S3).bind fun d3 S4 => Res.of ((o'.g d2 d3).bind asBool) S4 else .ok false S3
  | .chain3 o o' o'' a b e z, S => (ev c a S).bind fun d1 S1 => (ev c b S1).bind fun d2 S2 => (Res.of ((o.g d1 d2).bind asBool) S2).bind fun k S3 => if k then (ev c e S3).bind fun d3 S4 => (Res.of ((o'.g d2 d3).bind asBool) S4).bind fun k' S5 => if k' then (ev c z S5).bind fun d4 S6 => Res.of ((o''.g d3 d4).bind asBool) S6 else .ok false S5 else .ok false S3
  | .not_ t, S => (evT c t S).bind fun k S1 => .ok (!k) S1
  | .and_ a b, S => (evT c a S).bind fun k S1 => if k then evT c b S1 else .ok false S1
  | .or_ a b, S => (evT c a S).bind fun k S1 => if k then .ok true S1 else evT c b S1
  | .inO neg a i, S => (ev c a S).bind fun d1 S1 => Res.of ((peek S1 i).bind fun d2 => dInB neg d1 d2) S1
  | .hasD neg a i, S => (ev c a S).bind fun k S1 => Res.of (askKV S1 i k fun o => some (o.isSome != neg)) S1
def evF (c : Cfg) : CF → Sto → Res Ow
  | .lst es, S => (evs c es S).bind fun ds S1 => if ds.length ≤ sizeLine then .ok (.lst ds) S1 else .bad
  | .lc own t it cc elt, S => (evI c it S).bind fun ds S1 => if unOwned S1 (own.map (·.2)) && !(c.io && (own.map (·.2)).contains 0) then
      ((lcL (own.map (·.2)) (bindG c t) (evC c cc) (ev c elt) ds [] (wipeS S1 (own.map (·.2)))).onX fun S2 => backS S1 (wipeS S2 (own.map (·.2))) (own.map (·.2))).bind fun ys S2 => .ok (.lst ys) (backS S1 S2 (own.map (·.2)))
    else .bad
  | .cat a b, S => (ev c a S).bind fun d1 S1 => (ev c b S1).bind fun d2 S2 => Res.of ((dCat d1 d2).map .lst) S2
  | .sortK ky y a, S => (ev c a S).bind fun d1 S1 => Res.of ((dSortK ky d1).map .lst) S1
  | .bl b a, S => (ev c a S).bind fun d1 S1 => Res.of ((b.g d1).map .lst) S1
  | .rep es k, S => (evs c es S).bind fun ds S1 => if ds.length ≤ sizeLine then Res.of ((dRep (.list ds) (.int k)).map Ow.lst) S1 else .bad
  | .call f es, S => if c.run.isEmpty then .bad else (evs c es S).bind fun ds S1 => callFR c f ds S1
  | .dnew, S => .ok (.dct []) S
  | .listO i, S => Res.of (((peek S i).bind dListOf).map Ow.lst) S
  | .keysD i, S => Res.of ((dctAt S i).map fun kvs => Ow.lst (kvs.map (·.1))) S
  | .sortD i, S => Res.of (((dctAt S i).bind fun kvs => dSortDc (kvs.map (·.1))).map Ow.lst) S
  | .repE es a, S => (evs c es S).bind fun ds S1 => if ds.length ≤ sizeLine then (ev c a S1).bind fun d S2 => Res.of ((dRep (.list ds) d).map Ow.lst) S2 else .bad
  | .give i, S => giveR c.io i S
  | .lc2 own t it t1 it1 elt, S => (evI c it S).bind fun ds S1 => if unOwned S1 (own.map (·.2)) && !(c.io && (own.map (·.2)).contains 0) then
      ((lc2L (own.map (·.2)) t1.slots (bindG c t) (evI c it1) (bindG c t1) (ev c elt) ds [] (wipeS S1 (own.map (·.2)))).quiet).bind fun ys S2 => .ok (.lst ys) (backS S1 S2 (own.map (·.2)))
    else .bad
  | .lcP own i t cc elt, S => lcDR c.io i (fun q => .tuple [q.1, q.2]) (own.map (·.2)) (bindG c t) (evC c cc) (ev c elt) S
  | .lcD own i t cc elt, S => lcDR c.io i (·.1) (own.map (·.2)) (bindG c t) (evC c cc) (ev c elt) S
def evI (c : Cfg) : CI → Sto → Res (List D)
  | .seq a, S => (ev c a S).bind fun d S1 => Res.of (dIter d) S1
  | .rng1 a, S => (ev c a S).bind fun d S1 => (Res.of (asInt d) S1).bind fun j S2 => if range62 j then .ok (rng 0 j.toNat) S2 else .bad
  | .rng2 a b, S => (ev c a S).bind fun d S1 => (ev c b S1).bind fun d' S2 => (Res.of (asInt d) S2).bind fun i S3 => (Res.of (asInt d') S3).bind fun j S4 => if range62 i && range62 j then .ok (rng i (j - i).toNat) S4 else .bad
  | .zip a b, S => (ev c a S).bind fun d S1 => (ev c b S1).bind fun d' S2 => Res.of (dZip d d') S2
def evs (c : Cfg) : CEs → Sto → Res (List D)
  | .nil, S => .ok [] S
  | .cons a r, S => (ev c a S).bind fun d S1 => (evs c r S1).bind fun ds S2 => .ok (d :: ds) S2
def evO (c : Cfg) : CEo → Sto → Res (Option Int)
  | .none, S => .ok none S
  | .some a, S => (ev c a S).bind fun d S1 => (Res.of (asInt d) S1).bind fun i S2 => .ok (some i) S2
def evC (c : Cfg) : CTo → Sto → Res Bool
  | .none, S => .ok true S
  | .some t, S => evT c t S
end

def XV.val (x : Xc) : XV → Option D
  | .fld f => x.fs.lookup f
  | .str z => some (.str z)
  | .bl b => some (.bool b)
  | .non => some .none
  | .int i => some (.int i)
def XV.vals (x : Xc) : List XV → Option (List D)
  | [] => some []
  | v :: vs => (v.val x).bind fun d => (XV.vals x vs).map (d :: ·)
def XR.val (x : Xc) : XR → Option D
  | .one v => v.val x
  | .tup vs => if vs.length ≤ sizeLine then (XV.vals x vs).map .tuple else none
def XW.val (S : Sto) : XW → Option D
  | .str z => some (.str z)
  | .var i => match S[i]? with
    | some (.fro d) => some d
    | _ => none
def XW.vals (S : Sto) : List XW → Option (List D)
  | [] => some []
  | v :: vs => (v.val S).bind fun d => (XW.vals S vs).map (d :: ·)
def XW.not_ (n : Nat) : XW → Bool
  | .var i => i != n
  | _ => true
/-- how a statement ends -/
inductive Fl where
  | nx (S : Sto) | rt (d : D) (S : Sto) | rtF (o : Ow) (S : Sto) | rtT (a b : D) (o : Ow) (S : Sto) | bk (S : Sto) | ct (S : Sto) | exc (x : Xc) (S : Sto) | bad
def Res.fl {α : Type} (r : Res α) (g : α → Sto → Fl) : Fl := match r with
  | .ok a S => g a S
  | .exc x S => .exc x S
  | .bad => .bad
def Fl.then (f : Fl) (g : Sto → Fl) : Fl := match f with
  | .nx S => g S
  | f => f
def forL (body : D → Sto → Fl) : List D → Sto → Fl
  | [], S => .nx S
  | d :: ds, S => match body d S with
    | .nx S' => forL body ds S'
    | .ct S' => forL body ds S'
    | .bk S' => .nx S'
    | f => f
def whileL (test : Sto → Res Bool) (body : Sto → Fl) : Nat → Sto → Fl
  | 0, _ => .bad
  | n + 1, S => (test S).fl fun k S1 => if k then match body S1 with
      | .nx S' => whileL test body n S'
      | .ct S' => whileL test body n S'
      | .bk S' => .nx S'
      | f => f
    else .nx S1
/-- the suite of .tryI -/
def tryIX (c : Cfg) (cls : Str) (n : Nat) (vs : List XV) (ws : List XW) (x : Xc) (S' : Sto) : Fl :=
  if x.cls = cls ∧ n < S'.length ∧ (ws.all (XW.not_ n) = true ∧ vs.length ≤ 1000 ∧ ws.length ≤ 1000) ∧ (c.io && n == 0) = false then match XV.vals x vs, XW.vals S' ws with
    | some ds, some es => match dNe (.tuple ds) (.tuple es) with
      | some (.bool true) => .rt (.bool false) S'
      | some (.bool false) => .nx (S'.set n .no)
      | _ => .bad
    | _, _ => .bad
  else .bad
/-- the suite of .tryB -/
def tryBX (cls : Str) (n : Nat) (vs : List XV) (x : Xc) (S' : Sto) : Fl :=
  if x.cls = cls ∧ n < S'.length then match (XR.tup vs).val x with
    | some d => .rt d S'
    | none => .bad
  else .bad
def wfuel : Nat := 1048576
def setAt {α : Type} (xs : List α) (k : Int) (d : α) : Option (List α) := (ixN xs.length k).map fun j => xs.set j d
mutual
def ex (c : Cfg) : CS → Sto → Fl
  | .set i e, S => (ev c e S).fl fun d S1 => if c.io && i == 0 then .bad else .nx (S1.set i (.fro d))
  | .own i f, S => (evF c f S).fl fun o S1 => if c.io && i == 0 then .bad else .nx (S1.set i (.own o))
  | .unpack is e, S => (ev c e S).fl fun d S1 => match bindG c (.tup is) d S1 with
    | some S2 => .nx S2
    | none => .bad
  | .append i e, S => if !(isOwnL S i) then .bad else (ev c e S).fl fun d S1 => match S1[i]? with
    | some (.own (.lst ds)) => if ds.length < sizeLine then .nx (S1.set i (.own (.lst (ds ++ [d])))) else .bad
    | _ => .bad
  | .extE i e, S => if !(isOwnL S i) then .bad else (ev c e S).fl fun d S1 => match S1[i]?, d with
    | some (.own (.lst ds)), .list es => if ds.length + es.length ≤ sizeLine then .nx (S1.set i (.own (.lst (ds ++ es)))) else .bad
    | _, _ => .bad
  | .extend i f, S => if !(isOwnL S i) then .bad else (evF c f S).fl fun o S1 => match S1[i]?, o with
    | some (.own (.lst ds)), .lst es => if ds.length + es.length ≤ sizeLine then .nx (S1.set i (.own (.lst (ds ++ es)))) else .bad
    | _, _ => .bad
  | .setI i k e, S => (ev c e S).fl fun d S1 => if !(isOwnL S1 i) then .bad else (ev c k S1).fl fun kk S2 => match S2[i]?, kk with
    | some (.own (.lst ds)), .int j => match setAt ds j d with
      | some ds' => .nx (S2.set i (.own (.lst ds')))
      | none => .bad
    | _, _ => .bad
  | .setD i k e, S => (ev c e S).fl fun d S1 => if (dctAt S1 i).isSome then (ev c k S1).fl fun kk S2 => match dctOwn S2 i with
    | some kvs => if keyOk kvs kk = true ∧ kvs.length < sizeLine then .nx (S2.set i (.own (.dct (putKV kvs kk d)))) else .bad
    | none => .bad
    else .bad
  | .setF cls i f e, S => (ev c e S).fl fun d S1 => match S1[i]? with
    | some (.own (.obj k fs)) => if k = cls ∧ fs.length < 900 then .nx (S1.set i (.own (.obj k (putD f d fs)))) else .bad
    | _ => .bad
  | .newO i cls f es, S => (if c.run.isEmpty then .bad else (evs c es S).bind fun ds S1 => newR c cls f ds S1).fl fun o S1 => if c.io && i == 0 then .bad else .nx (S1.set i (.own o))
  | .ret e, S => (ev c e S).fl fun d S1 => .rt d S1
  | .retF f, S => (evF c f S).fl fun o S1 => .rtF o S1
  | .retN, S => .rt .none S
  | .ret3 a b k, S => (ev c a S).fl fun d1 S1 => (ev c b S1).fl fun d2 S2 => if c.io then .bad else match S2[k]? with
    | some (.own o) => .rtT d1 d2 o S2
    | _ => .bad
  | .unp3 i j k f es, S => (if c.run.isEmpty then .bad else (evs c es S).bind fun ds S1 => callTR c f ds S1).fl fun t S1 => if c.io then .bad else .nx (((S1.set i (.fro t.1)).set j (.fro t.2.1)).set k (.own t.2.2))
  | .expr e, S => (ev c e S).fl fun _ S1 => .nx S1
  | .if_ t a b, S => (evT c t S).fl fun k S1 => if k then exs c a S1 else exs c b S1
  | .for_ t it b, S => (evI c it S).fl fun ds S1 => forL (fun d S => match bindG c t d S with
    | some S' => exs c b S'
    | none => .bad) ds S1
  | .while_ t b, S => whileL (evT c t) (exs c b) wfuel S
  | .pass, S => .nx S
  | .stuck, S => .bad
  | .raise_ cls ps es, S => (evs c es S).fl fun ds S1 => if ds.length = ps.length then .exc ⟨cls, (ps.zip ds).reverse⟩ S1 else .bad
  | .try_ cls n b r, S => match exs c b S with
    | .exc x S' => if x.cls = cls ∧ (∀ i, n = some i → i < S'.length) then (match r.val x with
        | some d => .rt d S'
        | none => .bad) else .bad
    | f => f
  | .tryI cls n b vs ws, S => match exs c b S with
    | .exc x S' => tryIX c cls n vs ws x S'
    | f => f
  | .tryB base cls n b vs, S => match exs c b S with
    | .exc x S' => tryBX cls n vs x S'
    | f => f
  | .brk, S => .bk S
  | .cont, S => .ct S
def exs (c : Cfg) : CSs → Sto → Fl
  | .nil, S => .nx S
  | .cons a r, S => (ex c a S).then (exs c r)
end
end Dv

namespace Dv
open PySem PySem.Spec L2

/-! ### is this the program's text? -/
structure Sta where
  N : List Str
  bl : List Str
  fns : List (Str × Kd)
  gx : Bool := false
  lam : Bool := false
  exs : List (Str × List Str) := []
  mts : List (Str × (Str × Str)) := []
  cls : List (Str × List Str) := []
def visB (sc : Scope) (x : Str) : Bool := (match sc.names.lookup x with | some .local => true | some .cell => true | some .free => true | _ => false) && !(x == ("__debug__" : Str)) && !(x == ("__classdict__" : Str))
def glB (sc : Scope) (x : Str) : Bool := (match sc.names.lookup x with | some .globalImplicit => true | _ => false) && !(x == ("__debug__" : Str)) && !(x == ("__name__" : Str))
def BF.name : BF → Str
  | .len => "len" | .sum => "sum" | .max2 => "max" | .min2 => "min" | .int1 => "int" | .tuple1 => "tuple" | .min1 => "min" | .max1 => "max"
def BL.name : BL → Str
  | .list1 => "list" | .sorted1 => "sorted"
def tyStr (ty : String) : Str := Str.ofString ty
/-- no star, no set, no slice, no comprehension but a list's -/
def plainE : Expr → Bool
  | .Starred .. => false
  | .Set .. => false
  | .Slice .. => false
  | .SetComp .. => false
  | .DictComp .. => false
  | _ => true
/-- a comprehension over a dict is not stored by itself -/
def CF.isD : CF → Bool
  | .lcD .. => true
  | .lcP .. => true
  | _ => false
def noLc : Expr → Bool
  | .ListComp .. => false
  | e => plainE e
/-- a test that is asked for its truth -/
def plainT : Expr → Bool
  | .UnaryOp .Not _ _ => false
  | .BoolOp .. => false
  | .IfExp .. => false
  | .Compare .. => false
  | e => plainE e
/-- a name that may be stored: raw is the block's own scope -/
def asgB (sc raw : Scope) (x : Str) : Bool := (match sc.names.lookup x with
  | some .local => true
  | some .cell => (match raw.names.lookup x with | some .cell => true | _ => false)
  | _ => false)
def notList : Expr → Bool
  | .List .. => false
  | _ => true
def isTup : Expr → Bool
  | .Tuple .. => true
  | _ => false
def qNm (stp : Bool) : Str := if stp then "any" else "all"
/-- what a generator expression's scope is to be -/
def genScB (scope : Scope) : Bool := !scope.isCoroutine && scope.names.all (fun y => !decide (y.2 = .cell)) && decide (scope.names.lookup (".0" : Str) = some NameKind.local)
def notTup : Expr → Bool
  | .Tuple .. => false
  | _ => true
def chkNames (N : List Str) (sc raw : Scope) : List Nat → List Expr → Bool
  | [], [] => true
  | i :: r, e :: es => (match e with | .Name x _ => decide (N[i]? = some x) && asgB sc raw x | _ => false) && chkNames N sc raw r es
  | _, _ => false
def chkG (N : List Str) (sc raw : Scope) : CG → Expr → Bool
  | .name i, e => match e with | .Name x _ => decide (N[i]? = some x) && asgB sc raw x | _ => false
  | .tup is, e => match e with | .Tuple es _ _ => chkNames N sc raw is es | _ => false
  | .nst i is, e => match e with | .Tuple [.Name x _, .Tuple es _ _] _ _ => decide (N[i]? = some x) && asgB sc raw x && chkNames N sc raw is es | _ => false
mutual
def chk (st : Sta) (sc : Scope) : CE → Expr → Bool
  | .var i, e => match e with | .Name x _ => decide (st.N[i]? = some x) && visB sc x | _ => false
  | .glo x, e => match e with | .Name y _ => x == y && glB sc y | _ => false
  | .int i, e => match e with | .Constant (.int j) _ _ => i == j | _ => false
  | .str x, e => match e with | .Constant (.str y) _ _ => x == y | _ => false
  | .bl b, e => match e with | .Constant (.bool k) _ _ => b == k | _ => false
  | .non, e => match e with | .Constant .none _ _ => true | _ => false
  | .bin o a b, e => match e with | .BinOp x op y _ => decide (op = o.op) && chk st sc a x && chk st sc b y | _ => false
  | .neg a, e => match e with | .UnaryOp .USub x _ => chk st sc a x | _ => false
  | .cmp o a b, e => match e with | .Compare x [op] [y] _ => decide (op = o.op) && plainE y && chk st sc a x && chk st sc b y | _ => false
  | .chain o o' a b c, e => match e with | .Compare x [op, op'] [y, z] _ => decide (op = o.op) && decide (op' = o'.op) && plainE y && plainE z && chk st sc a x && chk st sc b y && chk st sc c z | _ => false
  | .chain3 o o' o'' a b c d, e => match e with | .Compare x [op, op', op''] [y, z, u] _ => decide (op = o.op) && decide (op' = o'.op) && decide (op'' = o''.op) && plainE y && plainE z && plainE u && chk st sc a x && chk st sc b y && chk st sc c z && chk st sc d u | _ => false
  | .lend f a i b, e => match e with | .Call (.Name g _) [x, .Name v _, y] [] _ => f == g && glB sc g && (match st.fns.lookup g with | some .pl => true | _ => false) && (st.mts.lookup f).isNone && decide (st.N[i]? = some v) && visB sc v && plainE x && plainE y && chk st sc a x && chk st sc b y | _ => false
  | .cnt a b, e => match e with | .Call (.Attribute (.Name v p1) m p2) [x] [] p3 => m == "count" && (p2.endLine == p3.line) && plainE x && chk st sc a (.Name v p1) && chk st sc b x | _ => false
  | .and_ a b, e => match e with
    | .BoolOp .And (x :: y :: []) _ => chk st sc a x && chk st sc b y
    | .BoolOp .And (x :: y :: z :: r) pos => chk st sc a x && chk st sc b (.BoolOp .And (y :: z :: r) pos)
    | _ => false
  | .or_ a b, e => match e with
    | .BoolOp .Or (x :: y :: []) _ => chk st sc a x && chk st sc b y
    | .BoolOp .Or (x :: y :: z :: r) pos => chk st sc a x && chk st sc b (.BoolOp .Or (y :: z :: r) pos)
    | _ => false
  | .orV a b, e => match e with
    | .BoolOp .Or (x :: y :: []) _ => chk st sc a x && chk st sc b y
    | .BoolOp .Or (x :: y :: z :: r) pos => chk st sc a x && chk st sc b (.BoolOp .Or (y :: z :: r) pos)
    | _ => false
  | .not_ a, e => match e with | .UnaryOp .Not x _ => chk st sc a x | _ => false
  | .ite t a b, e => match e with | .IfExp x y z _ => chkT st sc t x && chk st sc a y && chk st sc b z | _ => false
  | .tup es, e => match e with | .Tuple xs _ _ => chks st sc es xs | _ => false
  | .fr f, e => chkF st sc f e
  | .call f es, e => match e with | .Call (.Name g _) (x :: xs) [] _ => f == g && glB sc g && (match st.fns.lookup g with | some .pl => true | _ => false) && (st.mts.lookup f).isNone && chks st sc es (x :: xs) | _ => false
  | .callIO f i es, e => match e with | .Call (.Name g _) (.Name v _ :: xs) [] _ => f == g && glB sc g && (match st.fns.lookup g with | some .io => true | _ => false) && (st.mts.lookup f).isNone && decide (st.N[i]? = some v) && visB sc v && chks st sc es xs | _ => false
  | .fld cls i f, e => match e with | .Attribute (.Name v _) g _ => f == g && decide (st.N[i]? = some v) && visB sc v && ((st.cls.lookup cls).getD []).contains f | _ => false
  | .meth cls m f i es, e => match e with | .Call (.Attribute (.Name v _) m' p2) xs [] p3 => m == m' && (p2.endLine == p3.line) && decide (st.N[i]? = some v) && visB sc v && decide (st.fns.lookup f = some .io) && decide (st.mts.lookup f = some (cls, m)) && decide (xs.length < 20) && chks st sc es xs | _ => false
  | .bf b es, e => match e with | .Call (.Name g _) (x :: xs) [] _ => g == b.name && glB sc g && st.bl.contains g && chks st sc es (x :: xs) | _ => false
  | .isi a ty, e => match e with | .Call (.Name g _) [x, .Name h _] [] _ => g == "isinstance" && glB sc g && st.bl.contains g && h == tyStr ty && glB sc h && st.bl.contains h && plainE x && decide (bootBuiltins h = some (.type ty)) && chk st sc a x | _ => false
  | .item a b, e => match e with | .Subscript x y _ => plainE y && chk st sc a x && chk st sc b y | _ => false
  | .itemO i b, e => match e with | .Subscript (.Name v _) y _ => decide (st.N[i]? = some v) && visB sc v && plainE y && chk st sc b y | _ => false
  | .lenO i, e => match e with | .Call (.Name g _) [.Name v _] [] _ => g == "len" && glB sc g && st.bl.contains g && decide (st.N[i]? = some v) && visB sc v | _ => false
  | .inO neg a i, e => match e with | .Compare x [op] [.Name v _] _ => decide (op = if neg then .NotIn else .In) && decide (st.N[i]? = some v) && visB sc v && chk st sc a x | _ => false
  | .getD i b, e => match e with | .Subscript (.Name v _) y _ => decide (st.N[i]? = some v) && visB sc v && plainE y && chk st sc b y | _ => false
  | .hasD neg a i, e => match e with | .Compare x [op] [.Name v _] _ => decide (op = if neg then .NotIn else .In) && decide (st.N[i]? = some v) && visB sc v && chk st sc a x | _ => false
  | .orD i b z, e => match e with | .Call (.Attribute (.Name v _) m p2) [x, y] [] p3 => m == "get" && (p2.endLine == p3.line) && decide (st.N[i]? = some v) && visB sc v && plainE x && plainE y && chk st sc b x && chk st sc z y | _ => false
  | .lenset a, e => match e with | .Call (.Name l _) [.Call (.Name t _) [x] [] _] [] _ => l == "len" && t == "set" && glB sc l && glB sc t && st.bl.contains l && st.bl.contains t && plainE x && chk st sc a x | _ => false
  | .rev a, e => match e with | .Subscript x (.Slice none none (some (.UnaryOp .USub (.Constant (.int 1) _ _) _)) _) _ => chk st sc a x | _ => false
  | .slice a lo hi, e => match e with | .Subscript x (.Slice l h none _) _ => chk st sc a x && chkO st sc lo l && chkO st sc hi h | _ => false
  | .qnt stp own t it c elt, e => match e with
    | .Call (.Name g _) [.GeneratorExp y [⟨tg, iter, ifs, 0⟩] scope _] [] _ => (st.gx && !st.lam) && g == qNm stp && glB sc g && st.bl.contains g && genScB scope && blkC st.N sc scope own && plainE iter && notList iter && chkI st sc it tg iter &&
        chkG st.N scope scope t tg && t.slots.all (fun i => (own.map (·.2)).contains i) && chkC { st with gx := false } scope c ifs && chk { st with gx := false } scope elt y
    | _ => false
def chkT (st : Sta) (sc : Scope) : CT → Expr → Bool
  | .val a, e => plainT e && chk st sc a e
  | .cmp o a b, e => match e with | .Compare x [op] [y] _ => decide (op = o.op) && plainE y && chk st sc a x && chk st sc b y | _ => false
  | .chain3 o o' o'' a b c d, e => match e with | .Compare x [op, op', op''] [y, z, u] _ => decide (op = o.op) && decide (op' = o'.op) && decide (op'' = o''.op) && plainE y && plainE z && plainE u && chk st sc a x && chk st sc b y && chk st sc c z && chk st sc d u | _ => false
  | .chain o o' a b c, e => match e with | .Compare x [op, op'] [y, z] _ => decide (op = o.op) && decide (op' = o'.op) && plainE y && plainE z && chk st sc a x && chk st sc b y && chk st sc c z | _ => false
  | .not_ t, e => match e with | .UnaryOp .Not x _ => chkT st sc t x | _ => false
  | .and_ a b, e => match e with
    | .BoolOp .And (x :: y :: []) _ => chkT st sc a x && chkT st sc b y
    | .BoolOp .And (x :: y :: z :: r) pos => chkT st sc a x && chkT st sc b (.BoolOp .And (y :: z :: r) pos)
    | _ => false
  | .or_ a b, e => match e with
    | .BoolOp .Or (x :: y :: []) _ => chkT st sc a x && chkT st sc b y
    | .BoolOp .Or (x :: y :: z :: r) pos => chkT st sc a x && chkT st sc b (.BoolOp .Or (y :: z :: r) pos)
    | _ => false
  | .inO neg a i, e => match e with | .Compare x [op] [.Name v _] _ => decide (op = if neg then .NotIn else .In) && decide (st.N[i]? = some v) && visB sc v && chk st sc a x | _ => false
  | .hasD neg a i, e => match e with | .Compare x [op] [.Name v _] _ => decide (op = if neg then .NotIn else .In) && decide (st.N[i]? = some v) && visB sc v && chk st sc a x | _ => false
def chkF (st : Sta) (sc : Scope) : CF → Expr → Bool
  | .lst es, e => match e with | .List xs _ => chks st sc es xs | _ => false
  | .lc own t it c elt, e => match e with
    | .ListComp y [⟨tg, iter, ifs, 0⟩] scope _ => blkC st.N sc scope own && plainE iter && chkI st sc it tg iter && chkG st.N (relS scope sc) scope t tg && t.slots.all (fun i => (own.map (·.2)).contains i) && chkC st (relS scope sc) c ifs && chk st (relS scope sc) elt y
    | _ => false
  | .lc2 own t it t1 it1 elt, e => match e with
    | .ListComp y [⟨tg, iter, [], 0⟩, ⟨tg1, iter1, [], 0⟩] scope _ => blkC st.N sc scope own && plainE iter && plainE iter1 && chkI st sc it tg iter && chkG st.N (relS scope sc) scope t tg && t.slots.all (fun i => (own.map (·.2)).contains i) && chkI st (relS scope sc) it1 tg1 iter1 && chkG st.N (relS scope sc) scope t1 tg1 && t1.slots.all (fun i => (own.map (·.2)).contains i) && chk st (relS scope sc) elt y
    | _ => false
  | .lcD own i t c elt, e => match e with
    | .ListComp y [⟨tg, .Name v vp, ifs, 0⟩] scope _ => blkC st.N sc scope own && decide (st.N[i]? = some v) && visB sc v && chkG st.N (relS scope sc) scope t tg && t.slots.all (fun i => (own.map (·.2)).contains i) && chkC st (relS scope sc) c ifs && chk st (relS scope sc) elt y
    | _ => false
  | .lcP own i t c elt, e => match e with
    | .ListComp y [⟨.Tuple elts kk tp, .Call (.Attribute (.Name v vp) m p2) [] [] p3, ifs, 0⟩] scope _ => blkC st.N sc scope own && m == "items" && (p2.endLine == p3.line) && decide (st.N[i]? = some v) && visB sc v && chkG st.N (relS scope sc) scope t (.Tuple elts kk tp) && t.slots.all (fun i => (own.map (·.2)).contains i) && chkC st (relS scope sc) c ifs && chk st (relS scope sc) elt y
    | _ => false
  | .cat a b, e => match e with | .BinOp x .Add y _ => chk st sc a x && chk st sc b y | _ => false
  | .give i, e => match e with | .Name v _ => decide (st.N[i]? = some v) && visB sc v | _ => false
  | .dnew, e => match e with | .Dict [] [] _ => true | _ => false
  | .listO i, e => match e with | .Call (.Name g _) [.Name v _] [] _ => g == "list" && glB sc g && st.bl.contains g && decide (st.N[i]? = some v) && visB sc v | _ => false
  | .keysD i, e => match e with | .Call (.Name g _) [.Name v _] [] _ => g == "list" && glB sc g && st.bl.contains g && decide (st.N[i]? = some v) && visB sc v | _ => false
  | .sortD i, e => match e with | .Call (.Name g _) [.Name v _] [] _ => g == "sorted" && glB sc g && st.bl.contains g && decide (st.N[i]? = some v) && visB sc v | _ => false
  | .repE es a, e => match e with | .BinOp (.List xs _) .Mult y _ => chks st sc es xs && chk st sc a y | _ => false
  | .rep es k, e => match e with | .BinOp (.List xs _) .Mult (.Constant (.int j) _ _) _ => k == j && chks st sc es xs | _ => false
  | .sortK ky y a, e => match e with
    | .Call (.Name g _) [x] [⟨some k, .Lambda ⟨[], [⟨z, none, _⟩], none, [], [], none, []⟩ body scope _, _⟩] _ => g == "sorted" && k == "key" && (st.gx && st.lam) && z == y && glB sc g && st.bl.contains g && (!ky.lens || st.bl.contains "len") && kyScope y ky.lens scope && chkY y ky body && plainE x && chk st sc a x
    | _ => false
  | .bl b a, e => match e with | .Call (.Name g _) [x] [] _ => g == b.name && glB sc g && st.bl.contains g && plainE x && chk st sc a x | _ => false
  | .call f es, e => match e with | .Call (.Name g _) (x :: xs) [] _ => f == g && glB sc g && (match st.fns.lookup g with | some .fr => true | _ => false) && (st.mts.lookup f).isNone && chks st sc es (x :: xs) | _ => false
def chkI (st : Sta) (sc : Scope) : CI → Expr → Expr → Bool
  | .seq a, _, e => chk st sc a e
  | .rng1 a, _, e => match e with | .Call (.Name g _) [x] [] _ => g == "range" && glB sc g && st.bl.contains g && plainE x && chk st sc a x | _ => false
  | .zip a b, tg, e => isTup tg && match e with | .Call (.Name g _) [x, y] [] _ => g == "zip" && glB sc g && st.bl.contains g && plainE x && plainE y && chk st sc a x && chk st sc b y | _ => false
  | .rng2 a b, _, e => match e with | .Call (.Name g _) [x, y] [] _ => g == "range" && glB sc g && st.bl.contains g && plainE x && plainE y && chk st sc a x && chk st sc b y | _ => false
def chks (st : Sta) (sc : Scope) : CEs → List Expr → Bool
  | .nil, xs => match xs with | [] => true | _ => false
  | .cons a r, xs => match xs with | x :: xs => plainE x && chk st sc a x && chks st sc r xs | _ => false
def chkO (st : Sta) (sc : Scope) : CEo → Option Expr → Bool
  | .none, e => match e with | none => true | _ => false
  | .some a, e => match e with | some x => chk st sc a x | _ => false
def chkC (st : Sta) (sc : Scope) : CTo → List Expr → Bool
  | .none, xs => match xs with | [] => true | _ => false
  | .some t, xs => match xs with | [x] => chkT st sc t x | _ => false
end
/-- does the value's comprehension give its list to the name itself? -/
def swB (sc : Scope) (v : Str) (vp : Pos) : Expr → Bool
  | .ListComp _ _ scope pos => (match sc.names.lookup v with | some .local => true | _ => false) && (vp.line == pos.line) && !(scope.names.any fun (n, k) => n == v && (k == .local || k == .cell))
  | _ => false
def chkXV (st : Sta) (cls : Str) (y : Option Str) : XV → Expr → Bool
  | .fld f, e => match e, y with | .Attribute (.Name z _) g _, some y => z == y && f == g && ((st.exs.lookup cls).getD []).contains f | _, _ => false
  | .str x, e => match e with | .Constant (.str y) _ _ => x == y | _ => false
  | .bl b, e => match e with | .Constant (.bool k) _ _ => b == k | _ => false
  | .non, e => match e with | .Constant .none _ _ => true | _ => false
  | .int i, e => match e with | .Constant (.int j) _ _ => i == j | _ => false
def chkXVs (st : Sta) (cls : Str) (y : Option Str) : List XV → List Expr → Bool
  | [], es => match es with | [] => true | _ => false
  | v :: vs, es => match es with | e :: es => plainE e && chkXV st cls y v e && chkXVs st cls y vs es | _ => false
def chkXR (st : Sta) (cls : Str) (y : Option Str) : XR → Expr → Bool
  | .one v, e => chkXV st cls y v e
  | .tup vs, e => match e with | .Tuple es _ _ => chkXVs st cls y vs es | _ => false
def chkXW (st : Sta) (sc : Scope) : XW → Expr → Bool
  | .str x, e => match e with | .Constant (.str y) _ _ => x == y | _ => false
  | .var i, e => match e with | .Name x _ => decide (st.N[i]? = some x) && visB sc x | _ => false
def chkXWs (st : Sta) (sc : Scope) : List XW → List Expr → Bool
  | [], es => match es with | [] => true | _ => false
  | v :: vs, es => match es with | e :: es => plainE e && chkXW st sc v e && chkXWs st sc vs es | _ => false
/-- the own classes that stand right above an exception class -/
def upOf (cls : Str) : List Str := if cls = "MachineError" then ["ChoiceError"] else []
def chkNm (st : Sta) (sc : Scope) : Option Nat → Option Str → Bool
  | some i, some y => decide (st.N[i]? = some y) && decide (sc.names.lookup y = some .local) && visB sc y
  | none, none => true
  | _, _ => false
mutual
def chkS (st : Sta) (sc : Scope) : CS → Stmt → Bool
  | .set i e, s => match s with | .Assign [.Name v _] x _ => decide (st.N[i]? = some v) && asgB sc sc v && noLc x && chk st sc e x | _ => false
  | .own i f, s => match s with | .Assign [.Name v vp] x _ => decide (st.N[i]? = some v) && asgB sc sc v && chkF st sc f x | _ => false
  | .unpack is e, s => match s with | .Assign [.Tuple ts _ _] x _ => chkNames st.N sc sc is ts && noLc x && notTup x && chk st sc e x | _ => false
  | .append i e, s => match s with | .Expr (.Call (.Attribute (.Name v _) m p2) [x] [] p3) _ => m == "append" && (p2.endLine == p3.line) && decide (st.N[i]? = some v) && visB sc v && plainE x && chk st sc e x | _ => false
  | .extE i e, s => match s with | .Expr (.Call (.Attribute (.Name v _) m p2) [x] [] p3) _ => m == "extend" && (p2.endLine == p3.line) && decide (st.N[i]? = some v) && visB sc v && plainE x && chk st sc e x | _ => false
  | .extend i f, s => match s with | .Expr (.Call (.Attribute (.Name v _) m p2) [x] [] p3) _ => m == "extend" && (p2.endLine == p3.line) && decide (st.N[i]? = some v) && visB sc v && plainE x && chkF st sc f x | _ => false
  | .setI i k e, s => match s with | .Assign [.Subscript (.Name v _) y _] x _ => decide (st.N[i]? = some v) && visB sc v && plainE y && noLc x && chk st sc k y && chk st sc e x | _ => false
  | .setD i k e, s => match s with | .Assign [.Subscript (.Name v _) y _] x _ => decide (st.N[i]? = some v) && visB sc v && plainE y && noLc x && chk st sc k y && chk st sc e x | _ => false
  | .ret e, s => match s with | .Return (some x) _ => chk st sc e x | _ => false
  | .setF cls i f e, s => match s with | .Assign [.Attribute (.Name v _) g _] x _ => f == g && decide (st.N[i]? = some v) && visB sc v && ((st.cls.lookup cls).getD []).contains f && noLc x && chk st sc e x | _ => false
  | .newO i cls f es, s => match s with | .Assign [.Name v _] (.Call (.Name g _) (x :: xs) [] _) _ => decide (st.N[i]? = some v) && asgB sc sc v && cls == g && glB sc g && decide (st.fns.lookup f = some .io) && decide (st.mts.lookup f = some (cls, ("__init__" : Str))) && chks st sc es (x :: xs) | _ => false
  | .retF f, s => match s with | .Return (some x) _ => chkF st sc f x | _ => false
  | .retN, s => match s with | .Return none _ => true | _ => false
  | .expr e, s => match s with | .Expr x _ => noLc x && chk st sc e x | _ => false
  | .if_ t a b, s => match s with | .If x xs ys _ => chkT st sc t x && chkSs st sc a xs && chkSs st sc b ys | _ => false
  | .for_ t it b, s => match s with | .For tg iter xs [] _ => chkG st.N sc sc t tg && plainE iter && chkI st sc it tg iter && chkSs st sc b xs | _ => false
  | .while_ t b, s => match s with | .While x xs [] _ => chkT st sc t x && chkSs st sc b xs | _ => false
  | .pass, s => match s with | .Pass _ => true | _ => false
  | .ret3 a b k, s => match s with | .Return (some (.Tuple [x, y, .Name v _] _ _)) _ => decide (st.N[k]? = some v) && visB sc v && plainE x && plainE y && chk st sc a x && chk st sc b y | _ => false
  | .unp3 i j k f es, s => match s with | .Assign [.Tuple [n1, n2, n3] _ _] (.Call (.Name g _) (x :: xs) [] _) _ => chkNames st.N sc sc [i, j, k] [n1, n2, n3] && f == g && glB sc g && (match st.fns.lookup g with | some .tr => true | _ => false) && (st.mts.lookup f).isNone && chks st sc es (x :: xs) | _ => false
  | .stuck, s => match s with | .Raise _ _ _ => true | _ => false
  | .raise_ cls ps es, s => match s with | .Raise (some (.Call (.Name g _) (x :: xs) [] _)) none _ => cls == g && glB sc g && decide (st.exs.lookup cls = some ps) && chks st sc es (x :: xs) | _ => false
  | .tryI cls n b vs ws, s => match s with | .Try ys [.ExceptHandler (some (.Name g _)) (some nm) [.If (.Compare (.Tuple es1 _ _) [.NotEq] [.Tuple es2 _ _] _) [.Return (some (.Constant (.bool false) _ _)) _] [] _] _] [] [] _ => cls == g && glB sc g && (st.exs.lookup cls).isSome && chkNm st sc (some n) (some nm) && chkXVs st cls (some nm) vs es1 && chkXWs st sc ws es2 && chkSs st sc b ys | _ => false
  | .try_ cls n b r, s => match s with | .Try ys [.ExceptHandler (some (.Name g _)) nm [.Return (some x) _] _] [] [] _ => cls == g && glB sc g && (st.exs.lookup cls).isSome && chkNm st sc n nm && chkXR st cls nm r x && chkSs st sc b ys | _ => false
  | .tryB base cls n b vs, s => match s with | .Try ys [.ExceptHandler (some (.Name g _)) (some nm) [.If (.UnaryOp .Not (.Call (.Name isi _) [.Name nm' _, .Name cl _] [] _) _) [.Return (some (.Constant .none _ _)) _] [] _, .Return (some (.Tuple es _ _)) _] _] [] [] _ => base == g && cls == cl && nm == nm' && isi == "isinstance" && glB sc g && glB sc cl && glB sc isi && st.bl.contains isi && (st.exs.lookup cls).isSome && (upOf cls).contains base && chkNm st sc (some n) (some nm) && chkXVs st cls (some nm) vs es && chkSs st sc b ys | _ => false
  | .brk, s => match s with | .Break _ => true | _ => false
  | .cont, s => match s with | .Continue _ => true | _ => false
def chkSs (st : Sta) (sc : Scope) : CSs → List Stmt → Bool
  | .nil, xs => match xs with | [] => true | _ => false
  | .cons a r, xs => match xs with | x :: xs => chkS st sc a x && chkSs st sc r xs | _ => false
end
end Dv

namespace Dv
open PySem PySem.Spec L2

/-! ### shapes of text -/
section
variable {env : Env} {x y : Expr} {xs : List Expr}
theorem star_cons (h : plainE x = true) : starEach (x :: xs) env = (false, eval x env) :: starEach xs env := by
  cases x <;> first | rfl | cases h
theorem nomark_of {op : CmpOp} (h : plainE x = true) : behindInMarks op x = false := by
  cases x <;> first | rfl | cases h
theorem plainIx_of (h : plainE x = true) : PlainIx x := by
  intro o i
  cases x <;> first | rfl | cases h
theorem folded_of (h : plainE x = true) : ∀ v, foldedSetIterable x env v = pure v := by
  intro v
  cases x <;> first | rfl | cases h
theorem isTrue_of (h : plainT x = true) : ∀ whole, isTrue x env whole = (do let v ← whole; standAt x.pos; holding [v] (truthy v)) := by
  intro whole
  cases x with
  | UnaryOp op a p => cases op <;> first | rfl | cases h
  | BoolOp op a p => cases h
  | IfExp a b c p => cases h
  | Compare a b c p => cases h
  | _ => first | rfl | cases h
theorem swaps_of {t : Option Expr} {l : Nat} (h : noLc x = true) : swapsWith x t l env = pure false := by
  cases x <;> first | rfl | cases h
end
theorem hpl_of {st : Sta} {sc : Scope} {env : Env} {pos : Pos} : ∀ {es : CEs} {xs : List Expr}, chks st sc es xs = true → (backTo pos (starEach xs env)).any (·.1) = false
  | .nil, [], _ => rfl
  | .nil, _ :: _, h => by simp [chks] at h
  | .cons a r, [], h => by simp [chks] at h
  | .cons a r, x :: xs, h => by
    simp only [chks, Bool.and_eq_true] at h
    rw [star_cons h.1.1]
    have ih := hpl_of (env := env) (pos := pos) h.2
    simp only [backTo, List.map_cons, List.any_cons] at ih ⊢
    rw [ih]
    rfl
theorem vis_of {sc : Scope} {x : Str} (h : visB sc x = true) : Vis sc x ∧ (x == ("__debug__" : Str)) = false ∧ (x == ("__classdict__" : Str)) = false := by
  unfold visB at h
  simp only [Bool.and_eq_true, Bool.not_eq_true'] at h
  refine ⟨?_, h.1.2, h.2⟩
  have h1 := h.1.1
  split at h1
  · exact .inl (by assumption)
  · exact .inr (.inl (by assumption))
  · exact .inr (.inr (by assumption))
  · cases h1
theorem gl_of {X : Cx} {sc : Scope} {x : Str} (hs : X.env.scope = sc) (h : glB sc x = true) : Gl X x ∧ (x == ("__debug__" : Str)) = false ∧ x ≠ "__name__" := by
  unfold glB at h
  simp only [Bool.and_eq_true, Bool.not_eq_true'] at h
  refine ⟨?_, h.1.2, fun e => by rw [e] at h; exact absurd h.2 (by decide)⟩
  have h1 := h.1.1
  split at h1
  · show X.env.scope.names.lookup x = _
    rw [hs]
    assumption
  · cases h1

/-! ### what a def promises, by its run on data -/
def spD (K : PySem.W.Frag) (T : Tz) (mg : Str → Option Value) (kd : Kd) (n : Nat) (rf : Option Ow → List D → FR) : Sp := fun vs H Q E =>
  vs.length = n ∧ ∃ Z : Zn, (∀ a, Z a → H a ≠ none) ∧ (∀ a, T a → TabG T H a ∧ ¬ Z a) ∧
    match kd with
    | .io => ∃ a vs' o ds, vs = V.ref a :: vs' ∧ ¬ Z a ∧ ¬ T a ∧ OwnAt K T Z H a o ∧ Rs K Z H vs' ds ∧ (match rf (some o) ds with
      | .ok d (some o') => ∀ v Z' H', Chg T (fun b => b = a) Z H Z' H' → R K Z' H' v d → OwnAt K T Z' H' a o' → Q v H'
      | .exc x => ∀ cls dd Z' H', Chg T (fun b => b = a) Z H Z' H' → RX K mg Z' H' cls dd x → E cls dd H'
      | _ => False)
    | .pl => ∃ ds, Rs K Z H vs ds ∧ (match rf none ds with
      | .ok d none => ∀ v Z' H', Chg T (fun _ => False) Z H Z' H' → R K Z' H' v d → Q v H'
      | .exc x => ∀ cls dd Z' H', Chg T (fun _ => False) Z H Z' H' → RX K mg Z' H' cls dd x → E cls dd H'
      | _ => False)
    | .fr => ∃ ds, Rs K Z H vs ds ∧ (match rf none ds with
      | .okF o => ∀ p Z' H', Chg T (fun _ => False) Z H Z' H' → ¬ Z' p → OwnAt K T Z' H' p o → H p = none → Q (V.ref p) H'
      | .exc x => ∀ cls dd Z' H', Chg T (fun _ => False) Z H Z' H' → RX K mg Z' H' cls dd x → E cls dd H'
      | _ => False)
    | .tr => ∃ ds, Rs K Z H vs ds ∧ (match rf none ds with
      | .okT a b o => ∀ v p q u1 u2 Z' H', Chg T (fun _ => False) Z H Z' H' → Tri K ⟨Z, H, fun _ => False, fun _ => none, T⟩ Z' H' v a b o p q u1 u2 → Q v H'
      | .exc x => ∀ cls dd Z' H', Chg T (fun _ => False) Z H Z' H' → RX K mg Z' H' cls dd x → E cls dd H'
      | _ => False)
/-- where a def stands: a module's name, or a method of a class -/
def FAt (K : PySem.W.Frag) (mg : Str → Option Value) (mts : List (Str × (Str × Str))) (f : Str) (fa : Addr) : Prop := match mts.lookup f with
  | none => mg f = some (.ref fa) ∧ PySem.W.keepIn K (.ref fa) = true
  | some (cls, m) => ∃ C, mg cls = some (.ref C) ∧ Cls K C ∧ Meth K C m fa ∧ (m = "__init__" → Mk K C fa)
/-- a class whose objects are flat: its fields are no names of the class -/
structure ClOk (K : PySem.W.Frag) (mg : Str → Option Value) (cls : Str) (flds : List Str) : Prop where
  ex : ∃ C, mg cls = some (.ref C) ∧ Cls K C ∧ ∀ f ∈ flds, NoAttr K C f
structure FnFact (P : Program) (w : World) (K : PySem.W.Frag) (T : Tz) (mg : Str → Option Value) (base : Heap) (mts : List (Str × (Str × Str))) (k : Nat) (r : RunF) (f : Str) (kd : Kd) : Prop where
  ex : ∃ fa fd ps, FAt K mg mts f fa ∧ Binds K fd ps [] ∧ FnOk P w K mg base (L2.CX P w) k fa fd ps (spD K T mg kd ps.length (r f)) ∧
    ∀ oi ds, r f oi ds ≠ .bad → (match oi with | some _ => ds.length + 1 = ps.length | none => ds.length = ps.length)
def FnsOk (P : Program) (w : World) (K : PySem.W.Frag) (T : Tz) (mg : Str → Option Value) (base : Heap) (mts : List (Str × (Str × Str))) (fns : List (Str × Kd)) : List RunF → Prop
  | [] => True
  | r :: rs => (∀ f kd, fns.lookup f = some kd → FnFact P w K T mg base mts (2 * (rs.length + 1)) r f kd) ∧ FnsOk P w K T mg base mts fns rs

/-- what an except clause with the class above, and isinstance in its suite, ask of a class -/
structure UpOk (K : PySem.W.Frag) (mg : Str → Option Value) (cls base : Str) : Prop where
  ex : ∃ C B, mg cls = some (.ref C) ∧ mg base = some (.ref B) ∧ PySem.W.exmOne K (.ref C) (.ref B) = some true ∧ L2.ExcC K C ∧ PySem.W.kitOne K (.ref C) (.ref C) = some true
/-- an exception class that may be raised and caught -/
structure XcOk (prog : Program) (K : PySem.W.Frag) (mg : Str → Option Value) (cls : Str) (ps : List Str) : Prop where
  ex : ∃ C fI fam, SupT prog K mg C fI fam ps ∧ ps ≠ [] ∧ ps.length ≤ 800 ∧ mg cls = some (.ref C) ∧ XfC K C ∧ PySem.W.exmOne K (.ref C) (.ref C) = some true
  up : ∀ b ∈ upOf cls, UpOk K mg cls b
theorem XcOk.mk' {prog : Program} {K : PySem.W.Frag} {mg : Str → Option Value} {cls : Str} {ps : List Str} {C fI : Addr} {fam : Fam} (T : SupT prog K mg C fI fam ps) (h0 : ps ≠ []) (h8 : ps.length ≤ 800) (hm : mg cls = some (.ref C)) (xf : XfC K C) (te : PySem.W.exmOne K (.ref C) (.ref C) = some true) (up : ∀ b ∈ upOf cls, UpOk K mg cls b) : XcOk prog K mg cls ps :=
  ⟨⟨C, fI, fam, T, h0, h8, hm, xf, te⟩, up⟩
theorem up_none {K : PySem.W.Frag} {mg : Str → Option Value} {cls : Str} (h : (upOf cls).isEmpty = true) : ∀ b ∈ upOf cls, UpOk K mg cls b := fun b m => by
  rw [List.isEmpty_iff.mp h] at m
  cases m
theorem up_one {K : PySem.W.Frag} {mg : Str → Option Value} {cls base : Str} {C B : Addr} (h : upOf cls = [base]) (h1 : mg cls = some (.ref C)) (h2 : mg base = some (.ref B)) (h3 : PySem.W.exmOne K (.ref C) (.ref B) = some true) (h4 : L2.ExcC K C) (h5 : PySem.W.kitOne K (.ref C) (.ref C) = some true) : ∀ b ∈ upOf cls, UpOk K mg cls b := fun b m => by
  rw [h, List.mem_singleton] at m
  subst m
  exact ⟨⟨C, B, h1, h2, h3, h4, h5⟩⟩
/-- where the code stands -/
structure CxOk (st : Sta) (sc : Scope) (c : Cfg) (e : Ent) (W : WX) (X : Cx) : Prop where
  calm : X.calm = true
  nd : X.N.Nodup
  N : X.N = st.N
  sc : X.env.scope = sc
  room : Room (2 * c.run.length) X.A
  tab : st.gx = true → Room (2 * c.run.length + 1) X.A ∧ ∃ cd P, X.env.code = .ref cd ∧ GxR.TabB X.base X.mg cd P ∧ e.T P ∧ e.T.q P = (if st.lam then some (X.env.qual ++ "<lambda>") else none)
  fns : FnsOk X.prog X.w X.K e.T X.mg X.base st.mts st.fns c.run
  cmg : e.T.cm = X.mg
  cw : e.T.w = X.w
  cl : ∀ cls flds, st.cls.lookup cls = some flds → ClOk X.K X.mg cls flds
  bl : ∀ x, st.bl.contains x = true → X.mg x = none
  con : ∀ x d, c.con x = some d → ∃ u v, X.mg x = some u ∧ RelV v u ∧ ∀ Z H, R X.K Z H v d
  io : c.io = false → ∀ a, ¬ e.M a
  lx : LXo X W

section
variable {st : Sta} {sc : Scope} {c : Cfg} {e : Ent} {W : WX} {X : Cx}
theorem CxOk.units (ok : CxOk st sc c e W X) : X.A.units + 80 < cLine := by have := ok.room.un; omega

/-! ### one construct after another -/
theorem d_int {i : Int} {j : Nat} {pos : Pos} : PE X (.Constant (.int i) j pos) (tE X.K X.mg W e fun S => .ok (.int i) S) :=
  pe_int.mono fun σ H Q ⟨Z, S, s, h⟩ => h _ Z H .refl s (.int i)
theorem d_str {x : Str} {j : Nat} {pos : Pos} : PE X (.Constant (.str x) j pos) (tE X.K X.mg W e fun S => .ok (.str x) S) :=
  pe_str.mono fun σ H Q ⟨Z, S, s, h⟩ => h _ Z H .refl s (.str x)
theorem d_bl {b : Bool} {j : Nat} {pos : Pos} : PE X (.Constant (.bool b) j pos) (tE X.K X.mg W e fun S => .ok (.bool b) S) :=
  pe_bl.mono fun σ H Q ⟨Z, S, s, h⟩ => h _ Z H .refl s (.bl b)
theorem d_non {j : Nat} {pos : Pos} : PE X (.Constant .none j pos) (tE X.K X.mg W e fun S => .ok .none S) :=
  pe_non.mono fun σ H Q ⟨Z, S, s, h⟩ => h _ Z H .refl s .non
/-- a slot's object is frozen where it stands -/
theorem SR.freeze {K : PySem.W.Frag} {Z : Zn} {H : Hp} {σ : L2.St} {S : Sto} {i : Nat} {o : Ow} {a : Addr} (s : SR K e Z H σ S) (hi : S[i]? = some (.own o)) (ha : σ[i]? = some (some (V.ref a))) (ho : OwnAt K e.T Z H a o) (ol : o.isLst = true) (he : e.H a = none) (hm : ∀ b, e.M b → i ≠ 0) :
    SR K e (Z.put a) H σ (S.set i (.fro o.datum)) := by
  have hlt : i < S.length := (List.getElem?_eq_some_iff.mp hi).1
  have hlt2 : i < σ.length := by rw [← s.ln]; exact hlt
  have s1 : SR K e Z H σ (S.kill i) := s.kill
  have s2 : SR K e (Z.put a) H σ (S.kill i) := s1.put ho.there he (fun j o' hj hs => by
    unfold Sto.kill at hj
    by_cases e1 : i = j
    · subst e1
      rw [List.getElem?_set_self hlt] at hj
      cases hj
    · rw [List.getElem?_set_ne e1] at hj
      exact e1 (s.sep i j _ _ a hi hj ha hs)) (by
    cases q : e.P a with
    | none => rfl
    | some o2 => exact absurd ha ((s.pn a o2 q).2.2 i _ hi (Ow.isLst.w ol)))
  have s3 := s2.setF (i := i) (ho.r ol) hm
  have e2 : σ.set i (some (V.ref a)) = σ := by
    apply List.ext_getElem?
    intro j
    by_cases e1 : i = j
    · subst e1; rw [List.getElem?_set_self hlt2, ha]
    · rw [List.getElem?_set_ne e1]
  have e3 : (S.kill i).set i (.fro o.datum) = S.set i (.fro o.datum) := by unfold Sto.kill; rw [List.set_set]
  rw [e2, e3] at s3
  exact s3
theorem d_var (ok : CxOk st sc c e W X) {i : Nat} {x : Str} {pos : Pos} (hN : st.N[i]? = some x) (hv : visB sc x = true) : PE X (.Name x pos) (tE X.K X.mg W e (evVar c i)) := by
  obtain ⟨v1, v2, v3⟩ := vis_of hv
  refine (pe_var (by rw [ok.N]; exact hN) (by rw [ok.sc]; exact v1) v2 v3).mono fun σ H Q ⟨Z, S, s, h⟩ => ?_
  unfold evVar at h
  split at h
  · rename_i d hd
    obtain ⟨v, h1, r⟩ := s.fro i d hd
    exact ⟨v, h1, h v Z H .refl s r⟩
  · rename_i o ho
    split at h
    · exact h.elim
    · rename_i hio
      split at h
      case isFalse => exact h.elim
      rename_i ol
      obtain ⟨a, h1, h2, h3, h4⟩ := s.own i o ho
      have hm : ∀ b, e.M b → i ≠ 0 := fun b mb z => by
        cases q : c.io with
        | false => exact ok.io q b mb
        | true => rw [q, z] at hio; exact hio rfl
      have he : e.H a = none := by
        rcases h4 with q | q
        · exact q
        · exact absurd q.2 (hm a q.1)
      exact ⟨V.ref a, h1, h _ (Z.put a) H ⟨fun b hb => .inl hb, fun _ _ _ h => h⟩ (s.freeze ho h1 h3 ol he hm) (h3.r ol)⟩
  · exact h.elim

theorem d_glo (ok : CxOk st sc c e W X) {x : Str} {pos : Pos} (hx : glB sc x = true) : PE X (.Name x pos) (tE X.K X.mg W e fun S => Res.of (c.con x) S) := by
  obtain ⟨g1, g2, g3⟩ := gl_of ok.sc hx
  refine ⟨fun pins s σ H Q I ⟨Z, S, sr, h⟩ => ?_⟩
  obtain ⟨d, hd, h⟩ := Aft.of h
  obtain ⟨u, v, hu, rv, hr⟩ := ok.con x d hd
  exact ld_glob I g1 hu ⟨v, H, I, rv, h v Z H .refl sr (hr Z H)⟩ g2
section
variable {fa fb fc : Sto → Res D} {a b z : Expr} {pos : Pos}
theorem d_bin (ok : CxOk st sc c e W X) (o : BO) (ha : PE X a (tE X.K X.mg W e fa)) (hb : PE X b (tE X.K X.mg W e fb)) :
    PE X (.BinOp a o.op b pos) (tE X.K X.mg W e fun S => (fa S).bind fun d1 S1 => (fb S1).bind fun d2 S2 => Res.of (o.g d1 d2) S2) := by
  cases o with
  | add => exact de_bin op_addL opd_addL ha hb
  | sub => exact de_bin op_sub opd_sub ha hb
  | mul => exact de_bin op_mulL opd_mulL ha hb
  | mod => exact de_bin op_modN opd_mod ha hb
  | div => exact de_bin op_fdivN opd_div ha hb
  | pow => exact de_bin op_pow opd_pow ha hb
theorem CO.rule (ok : CxOk st sc c e W X) (o : CO) : ∃ r : R2, OpR X (compareOp o.op) r ∧ OpD X.K r o.g ∧ ∀ a b d, o.g a b = some d → ∃ k, d = .bool k := by
  have hu := ok.units
  cases o with
  | eq => exact ⟨_, op_eqP (by omega), opd_cmp (bool_of fun a b => rfl), bool_of fun a b => rfl⟩
  | ne => exact ⟨_, op_neP (by omega), opd_cmp (bool_of fun a b => rfl), bool_of fun a b => rfl⟩
  | lt => exact ⟨_, op_ltP (by omega), opd_cmp (bool_of fun a b => rfl), bool_of fun a b => rfl⟩
  | le => exact ⟨_, op_leP (by omega), opd_cmp (bool_of fun a b => rfl), bool_of fun a b => rfl⟩
  | gt => exact ⟨_, op_gtP (by omega), opd_cmp (bool_of fun a b => rfl), bool_of fun a b => rfl⟩
  | ge => exact ⟨_, op_geP (by omega), opd_cmp (bool_of fun a b => rfl), bool_of fun a b => rfl⟩
  | is => exact ⟨_, op_isP, opd_cmp bool_is, bool_is⟩
  | isnot => exact ⟨_, op_isnotP, opd_cmp bool_not, bool_not⟩
  | in_ => exact ⟨_, op_inP (by omega), opd_cmp bool_in, bool_in⟩
  | notin => exact ⟨_, op_notInP (by omega), opd_cmp bool_notIn, bool_notIn⟩
theorem d_cmp (ok : CxOk st sc c e W X) (o : CO) (hm : plainE b = true) (ha : PE X a (tE X.K X.mg W e fa)) (hb : PE X b (tE X.K X.mg W e fb)) :
    PE X (.Compare a [o.op] [b] pos) (tE X.K X.mg W e fun S => (fa S).bind fun d1 S1 => (fb S1).bind fun d2 S2 => Res.of (o.g d1 d2) S2) := by
  obtain ⟨r, h1, h2, _⟩ := CO.rule ok o
  exact de_cmp h1 h2 ha hb (nomark_of hm)
theorem asBool_some {d : D} {k : Bool} (h : asBool d = some k) : d = .bool k := by
  unfold asBool at h
  split at h
  · cases h; rfl
  · cases h
theorem asInt_some {d : D} {k : Int} (h : asInt d = some k) : d = .int k := by
  unfold asInt at h
  split at h
  · cases h; rfl
  · cases h
theorem dt_cmp (ok : CxOk st sc c e W X) (o : CO) (hm : plainE b = true) (ha : PE X a (tE X.K X.mg W e fa)) (hb : PE X b (tE X.K X.mg W e fb)) :
    PT X (.Compare a [o.op] [b] pos) (tB X.K X.mg W e fun S => (fa S).bind fun d1 S1 => (fb S1).bind fun d2 S2 => Res.of ((o.g d1 d2).bind asBool) S2) := by
  obtain ⟨r, h1, h2, h3⟩ := CO.rule ok o
  refine (pt_cmpR h1 ha hb (nomark_of hm)).mono fun σ H Q ⟨Z, S, s, h⟩ => ?_
  refine ⟨Z, S, s, (Aft.bind (Rel := RelD X.K) h).mono fun v1 H1 ⟨Z1, d1, S1, _, st1, s1, r1, h1⟩ => ⟨Z1, S1, s1, (Aft.bind (Rel := RelD X.K) h1).mono fun v2 H2 ⟨Z2, d2, S2, _, st2, s2, r2, h2'⟩ => ?_⟩⟩
  obtain ⟨k, hk, h4⟩ := Aft.of h2'
  cases q : o.g d1 d2 with
  | none => rw [q] at hk; cases hk
  | some d =>
    rw [q] at hk
    have e1 : asBool d = some k := hk
    exact h2 Z2 H2 v1 v2 d1 d2 d _ s2.zi (R.step st2 r1) r2 q fun v Z' H' gr rv => by
      rw [asBool_some e1] at rv
      exact ⟨k, rv.bl_inv, h4 k Z' H' gr.step (s2.grow gr) rfl⟩
/-- a <= b <= c -/
theorem d_chain (ok : CxOk st sc c e W X) (o o' : CO) (hm : plainE b = true) (hm' : plainE z = true) (ha : PE X a (tE X.K X.mg W e fa)) (hb : PE X b (tE X.K X.mg W e fb)) (hc : PE X z (tE X.K X.mg W e fc)) :
    PE X (.Compare a [o.op, o'.op] [b, z] pos) (tE X.K X.mg W e fun S => (fa S).bind fun d1 S1 => (fb S1).bind fun d2 S2 => (Res.of ((o.g d1 d2).bind asBool) S2).bind fun k S3 => if k then (fc S3).bind fun d3 S4 => Res.of (o'.g d2 d3) S4 else .ok (.bool false) S3) := by
  obtain ⟨r, h1, h2, h3⟩ := CO.rule ok o
  obtain ⟨r', h1', h2', h3'⟩ := CO.rule ok o'
  refine (pe_chain h1 h1' ha hb hc (nomark_of hm')).mono fun σ H Q ⟨Z, S, s, h⟩ => ?_
  refine ⟨Z, S, s, (Aft.bind (Rel := RelD X.K) h).mono fun v1 H1 ⟨Z1, d1, S1, _, st1, s1, r1, h1⟩ => ⟨Z1, S1, s1, (Aft.bind (Rel := RelD X.K) h1).mono fun v2 H2 ⟨Z2, d2, S2, _, st2, s2, r2, h3'⟩ => ?_⟩⟩
  cases q : o.g d1 d2 with
  | none => rw [q] at h3'; exact h3'.elim
  | some d =>
    rw [q] at h3'
    obtain ⟨k, rfl⟩ := h3 _ _ _ q
    refine h2 Z2 H2 v1 v2 d1 d2 _ _ s2.zi (R.step st2 r1) r2 q fun v Z' H' gr rv => ⟨k, rv.bl_inv, ?_⟩
    have h5 := Aft.step gr.step h3'
    cases k with
    | false => exact h5 _ Z' H' .refl (s2.grow gr) (.bl false)
    | true =>
      refine ⟨Z', S2, s2.grow gr, (Aft.bind (Rel := RelD X.K) h5).mono fun v3 H3 ⟨Z3, d3, S4, _, st3, s4, r3, h6⟩ => ?_⟩
      obtain ⟨d', hd', h7⟩ := Aft.of h6
      exact h2' Z3 H3 v2 v3 d2 d3 d' _ s4.zi (R.step st3 (R.step gr.step r2)) r3 hd' fun w Zw Hw gw rw' => h7 w Zw Hw gw.step (s4.grow gw) rw'
theorem dt_chain (ok : CxOk st sc c e W X) (o o' : CO) (hm : plainE b = true) (hm' : plainE z = true) (ha : PE X a (tE X.K X.mg W e fa)) (hb : PE X b (tE X.K X.mg W e fb)) (hc : PE X z (tE X.K X.mg W e fc)) :
    PT X (.Compare a [o.op, o'.op] [b, z] pos) (tB X.K X.mg W e fun S => (fa S).bind fun d1 S1 => (fb S1).bind fun d2 S2 => (Res.of ((o.g d1 d2).bind asBool) S2).bind fun k S3 => if k then (fc S3).bind fun d3 S4 => Res.of ((o'.g d2 d3).bind asBool) S4 else .ok false S3) := by
  obtain ⟨r, h1, h2, h3⟩ := CO.rule ok o
  obtain ⟨r', h1', h2', h3'⟩ := CO.rule ok o'
  refine (pt_chain h1 h1' ha hb hc (nomark_of hm')).mono fun σ H Q ⟨Z, S, s, h⟩ => ?_
  refine ⟨Z, S, s, (Aft.bind (Rel := RelD X.K) h).mono fun v1 H1 ⟨Z1, d1, S1, _, st1, s1, r1, h1⟩ => ⟨Z1, S1, s1, (Aft.bind (Rel := RelD X.K) h1).mono fun v2 H2 ⟨Z2, d2, S2, _, st2, s2, r2, h3'⟩ => ?_⟩⟩
  cases q : o.g d1 d2 with
  | none => rw [q] at h3'; exact h3'.elim
  | some d =>
    rw [q] at h3'
    obtain ⟨k, rfl⟩ := h3 _ _ _ q
    refine h2 Z2 H2 v1 v2 d1 d2 _ _ s2.zi (R.step st2 r1) r2 q fun v Z' H' gr rv => ⟨k, rv.bl_inv, ?_⟩
    have h5 := Aft.step gr.step h3'
    cases k with
    | false => exact ⟨false, rfl, h5 _ Z' H' .refl (s2.grow gr) rfl⟩
    | true =>
      refine ⟨Z', S2, s2.grow gr, (Aft.bind (Rel := RelD X.K) h5).mono fun v3 H3 ⟨Z3, d3, S4, _, st3, s4, r3, h6⟩ => ?_⟩
      obtain ⟨k', hk', h7⟩ := Aft.of h6
      cases q' : o'.g d2 d3 with
      | none => rw [q'] at hk'; cases hk'
      | some d' =>
        rw [q'] at hk'
        have e1 : asBool d' = some k' := hk'
        exact h2' Z3 H3 v2 v3 d2 d3 d' _ s4.zi (R.step st3 (R.step gr.step r2)) r3 q' fun w Zw Hw gw rw' => by
          rw [asBool_some e1] at rw'
          exact ⟨k', rw'.bl_inv, h7 k' Zw Hw gw.step (s4.grow gw) rfl⟩
/-- a <= b <= c <= d, as a value -/
def tChain3V (r r' r'' : R2) (ta tb tc td : TE) : TE := fun σ H Q => ta σ H fun x H1 => tb σ H1 fun y H2 => r x y H2 fun z H3 => ∃ k, z = .bl k ∧
  (if k = true then tc σ H3 fun u H4 => r' y u H4 fun z' H5 => ∃ k', z' = .bl k' ∧ (if k' = true then td σ H5 fun v H6 => r'' u v H6 Q else Q (.bl false) H5) else Q (.bl false) H3)
theorem pe_chain3 {a b z w : Expr} {pos : Pos} {op op' op'' : CmpOp} {r r' r'' : R2} {ta tb tc td : TE} (ho : OpR X (compareOp op) r) (ho' : OpR X (compareOp op') r') (ho'' : OpR X (compareOp op'') r'') (ha : PE X a ta) (hb : PE X b tb) (hc : PE X z tc) (hd : PE X w td)
    (hm : PySem.lastMarks [op, op', op''] [b, z, w] = false) : PE X (.Compare a [op, op', op''] [b, z, w] pos) (tChain3V r r' r'' ta tb tc td) := by
  refine ⟨fun pins s σ H Q I h => ?_⟩
  refine PyProof.Rows.Compare_chain (thn (ha.run pins s σ H _ I h) fun v1 s1 ⟨x1, H1, I1, r1, q1⟩ => PyProof.Rows.chain_link (thn (hb.run pins s1 σ H1 _ I1 q1) fun v2 s2 ⟨x2, H2, I2, r2, q2⟩ =>
    thn (ho pins s2 σ H2 x1 x2 v1 v2 _ I2 r1 r2 q2) fun c1 s3 ⟨y1, H3, I3, r3, k, e, q3⟩ => ?_)) hm
  subst e
  cases r3
  refine wpAny_truthy_bool ?_
  cases k with
  | false => exact PyProof.Rows.ite_ff ⟨.bl false, H3, I3, rfl, q3⟩
  | true =>
    refine PyProof.Rows.ite_tt (PyProof.Rows.chain_link (thn (hc.run pins s3 σ H3 _ I3 q3) fun v3 s4 ⟨x3, H4, I4, r4, q4⟩ => thn (ho' pins s4 σ H4 x2 x3 v2 v3 _ I4 r2 r4 q4) fun c2 s5 ⟨y2, H5, I5, r5, k', e', q5⟩ => ?_))
    subst e'
    cases r5
    refine wpAny_truthy_bool ?_
    cases k' with
    | false => exact PyProof.Rows.ite_ff ⟨.bl false, H5, I5, rfl, q5⟩
    | true => exact PyProof.Rows.ite_tt (PyProof.Rows.chain_last (thn (hd.run pins s5 σ H5 _ I5 q5) fun v4 s6 ⟨x4, H6, I6, r6, q6⟩ => ho'' pins s6 σ H6 x3 x4 v3 v4 Q I6 r4 r6 q6))
theorem d_chain3 (ok : CxOk st sc c e W X) (o o' o'' : CO) {u : Expr} {fd : Sto → Res D} (hm : plainE b = true) (hm' : plainE z = true) (hm'' : plainE u = true) (ha : PE X a (tE X.K X.mg W e fa)) (hb : PE X b (tE X.K X.mg W e fb)) (hc : PE X z (tE X.K X.mg W e fc)) (hd : PE X u (tE X.K X.mg W e fd)) :
    PE X (.Compare a [o.op, o'.op, o''.op] [b, z, u] pos) (tE X.K X.mg W e fun S => (fa S).bind fun d1 S1 => (fb S1).bind fun d2 S2 => (Res.of ((o.g d1 d2).bind asBool) S2).bind fun k S3 => if k then (fc S3).bind fun d3 S4 => (Res.of ((o'.g d2 d3).bind asBool) S4).bind fun k' S5 => if k' then (fd S5).bind fun d4 S6 => Res.of (o''.g d3 d4) S6 else .ok (.bool false) S5 else .ok (.bool false) S3) := by
  obtain ⟨r, h1, h2, h3⟩ := CO.rule ok o
  obtain ⟨r', h1', h2', h3'⟩ := CO.rule ok o'
  obtain ⟨r'', h1'', h2'', h3''⟩ := CO.rule ok o''
  refine (pe_chain3 h1 h1' h1'' ha hb hc hd (nomark_of hm'')).mono fun σ H Q ⟨Z, S, s, h⟩ => ?_
  refine ⟨Z, S, s, (Aft.bind (Rel := RelD X.K) h).mono fun v1 H1 ⟨Z1, d1, S1, _, st1, s1, r1, h1⟩ => ⟨Z1, S1, s1, (Aft.bind (Rel := RelD X.K) h1).mono fun v2 H2 ⟨Z2, d2, S2, _, st2, s2, r2, h4⟩ => ?_⟩⟩
  cases q : o.g d1 d2 with
  | none => rw [q] at h4; exact h4.elim
  | some d =>
    rw [q] at h4
    obtain ⟨k, rfl⟩ := h3 _ _ _ q
    refine h2 Z2 H2 v1 v2 d1 d2 _ _ s2.zi (R.step st2 r1) r2 q fun v Z' H' gr rv => ⟨k, rv.bl_inv, ?_⟩
    have h5 := Aft.step gr.step h4
    cases k with
    | false => exact h5 _ Z' H' .refl (s2.grow gr) (.bl false)
    | true =>
      refine ⟨Z', S2, s2.grow gr, (Aft.bind (Rel := RelD X.K) h5).mono fun v3 H3 ⟨Z3, d3, S4, _, st3, s4, r3, h6⟩ => ?_⟩
      cases q' : o'.g d2 d3 with
      | none => rw [q'] at h6; exact h6.elim
      | some d' =>
        rw [q'] at h6
        obtain ⟨k', rfl⟩ := h3' _ _ _ q'
        refine h2' Z3 H3 v2 v3 d2 d3 _ _ s4.zi (R.step st3 (R.step gr.step r2)) r3 q' fun w Zw Hw gw rw' => ⟨k', rw'.bl_inv, ?_⟩
        have h7 := Aft.step gw.step h6
        cases k' with
        | false => exact h7 _ Zw Hw .refl (s4.grow gw) (.bl false)
        | true =>
          refine ⟨Zw, S4, s4.grow gw, (Aft.bind (Rel := RelD X.K) h7).mono fun v4 H4 ⟨Z4, d4, S6, _, st4, s6, r4, h8⟩ => ?_⟩
          obtain ⟨d'', hd'', h9⟩ := Aft.of h8
          exact h2'' Z4 H4 v3 v4 d3 d4 d'' _ s6.zi (R.step st4 (R.step gw.step r3)) r4 hd'' fun w2 Zx Hx gx rx => h9 w2 Zx Hx gx.step (s6.grow gx) rx
/-- a <= b <= c <= d, as a test -/
def tChain3 (r r' r'' : R2) (ta tb tc td : TE) : TT := fun σ H Q => ta σ H fun x H1 => tb σ H1 fun y H2 => r x y H2 fun z H3 => ∃ k, z = .bl k ∧
  (if k = true then tc σ H3 fun u H4 => r' y u H4 fun z' H5 => ∃ k', z' = .bl k' ∧ (if k' = true then td σ H5 fun v H6 => r'' u v H6 fun z'' H7 => ∃ k'', z'' = .bl k'' ∧ Q k'' H7 else Q false H5) else Q false H3)
theorem pt_chain3 {a b z w : Expr} {pos : Pos} {op op' op'' : CmpOp} {r r' r'' : R2} {ta tb tc td : TE} (ho : OpR X (compareOp op) r) (ho' : OpR X (compareOp op') r') (ho'' : OpR X (compareOp op'') r'') (ha : PE X a ta) (hb : PE X b tb) (hc : PE X z tc) (hd : PE X w td)
    (hm : PySem.lastMarks [op, op', op''] [b, z, w] = false) : PT X (.Compare a [op, op', op''] [b, z, w] pos) (tChain3 r r' r'' ta tb tc td) := by
  refine ⟨fun pins s σ H Q I h => ?_⟩
  refine PyProof.Rows.isTrue_chain (thn (ha.run pins s σ H _ I h) fun v1 s1 ⟨x1, H1, I1, r1, q1⟩ => PyProof.Rows.test_link (thn (hb.run pins s1 σ H1 _ I1 q1) fun v2 s2 ⟨x2, H2, I2, r2, q2⟩ =>
    thn (ho pins s2 σ H2 x1 x2 v1 v2 _ I2 r1 r2 q2) fun c1 s3 ⟨y1, H3, I3, r3, k, e, q3⟩ => ?_)) hm
  subst e
  cases r3
  refine wpAny_truthy_bool ?_
  cases k with
  | false => exact PyProof.Rows.ite_ff ⟨H3, I3, q3⟩
  | true =>
    refine PyProof.Rows.ite_tt (PyProof.Rows.test_link (thn (hc.run pins s3 σ H3 _ I3 q3) fun v3 s4 ⟨x3, H4, I4, r4, q4⟩ => thn (ho' pins s4 σ H4 x2 x3 v2 v3 _ I4 r2 r4 q4) fun c2 s5 ⟨y2, H5, I5, r5, k', e', q5⟩ => ?_))
    subst e'
    cases r5
    refine wpAny_truthy_bool ?_
    cases k' with
    | false => exact PyProof.Rows.ite_ff ⟨H5, I5, q5⟩
    | true =>
      refine PyProof.Rows.ite_tt (PyProof.Rows.test_last (thn (hd.run pins s5 σ H5 _ I5 q5) fun v4 s6 ⟨x4, H6, I6, r6, q6⟩ => thn (ho'' pins s6 σ H6 x3 x4 v3 v4 _ I6 r4 r6 q6) fun c3 s7 ⟨y3, H7, I7, r7, k'', e'', q7⟩ => ?_))
      subst e''
      cases r7
      exact wpAny_truthy_bool ⟨H7, I7, q7⟩
theorem dt_chain3 (ok : CxOk st sc c e W X) (o o' o'' : CO) {u : Expr} {fd : Sto → Res D} (hm : plainE b = true) (hm' : plainE z = true) (hm'' : plainE u = true) (ha : PE X a (tE X.K X.mg W e fa)) (hb : PE X b (tE X.K X.mg W e fb)) (hc : PE X z (tE X.K X.mg W e fc)) (hd : PE X u (tE X.K X.mg W e fd)) :
    PT X (.Compare a [o.op, o'.op, o''.op] [b, z, u] pos) (tB X.K X.mg W e fun S => (fa S).bind fun d1 S1 => (fb S1).bind fun d2 S2 => (Res.of ((o.g d1 d2).bind asBool) S2).bind fun k S3 => if k then (fc S3).bind fun d3 S4 => (Res.of ((o'.g d2 d3).bind asBool) S4).bind fun k' S5 => if k' then (fd S5).bind fun d4 S6 => Res.of ((o''.g d3 d4).bind asBool) S6 else .ok false S5 else .ok false S3) := by
  obtain ⟨r, h1, h2, h3⟩ := CO.rule ok o
  obtain ⟨r', h1', h2', h3'⟩ := CO.rule ok o'
  obtain ⟨r'', h1'', h2'', h3''⟩ := CO.rule ok o''
  refine (pt_chain3 h1 h1' h1'' ha hb hc hd (nomark_of hm'')).mono fun σ H Q ⟨Z, S, s, h⟩ => ?_
  refine ⟨Z, S, s, (Aft.bind (Rel := RelD X.K) h).mono fun v1 H1 ⟨Z1, d1, S1, _, st1, s1, r1, h1⟩ => ⟨Z1, S1, s1, (Aft.bind (Rel := RelD X.K) h1).mono fun v2 H2 ⟨Z2, d2, S2, _, st2, s2, r2, h4⟩ => ?_⟩⟩
  cases q : o.g d1 d2 with
  | none => rw [q] at h4; exact h4.elim
  | some d =>
    rw [q] at h4
    obtain ⟨k, rfl⟩ := h3 _ _ _ q
    refine h2 Z2 H2 v1 v2 d1 d2 _ _ s2.zi (R.step st2 r1) r2 q fun v Z' H' gr rv => ⟨k, rv.bl_inv, ?_⟩
    have h5 := Aft.step gr.step h4
    cases k with
    | false => exact h5 _ Z' H' .refl (s2.grow gr) rfl
    | true =>
      refine ⟨Z', S2, s2.grow gr, (Aft.bind (Rel := RelD X.K) h5).mono fun v3 H3 ⟨Z3, d3, S4, _, st3, s4, r3, h6⟩ => ?_⟩
      cases q' : o'.g d2 d3 with
      | none => rw [q'] at h6; exact h6.elim
      | some d' =>
        rw [q'] at h6
        obtain ⟨k', rfl⟩ := h3' _ _ _ q'
        refine h2' Z3 H3 v2 v3 d2 d3 _ _ s4.zi (R.step st3 (R.step gr.step r2)) r3 q' fun w Zw Hw gw rw' => ⟨k', rw'.bl_inv, ?_⟩
        have h7 := Aft.step gw.step h6
        cases k' with
        | false => exact h7 _ Zw Hw .refl (s4.grow gw) rfl
        | true =>
          refine ⟨Zw, S4, s4.grow gw, (Aft.bind (Rel := RelD X.K) h7).mono fun v4 H4 ⟨Z4, d4, S6, _, st4, s6, r4, h8⟩ => ?_⟩
          obtain ⟨k'', hk, h9⟩ := Aft.of h8
          cases q'' : o''.g d3 d4 with
          | none => rw [q''] at hk; cases hk
          | some d'' =>
            rw [q''] at hk
            have e1 : asBool d'' = some k'' := hk
            exact h2'' Z4 H4 v3 v4 d3 d4 d'' _ s6.zi (R.step st4 (R.step gw.step r3)) r4 q'' fun y Zy Hy gy ry => by
              rw [asBool_some e1] at ry
              exact ⟨k'', ry.bl_inv, h9 k'' Zy Hy gy.step (s6.grow gy) rfl⟩
end
end
end Dv

namespace Dv
open PySem PySem.Spec L2
section
variable {st : Sta} {sc : Scope} {c : Cfg} {e : Ent} {W : WX} {X : Cx}
section
variable {fa fb fc : Sto → Res D} {ft fu : Sto → Res Bool} {fs : Sto → Res (List D)} {a b z : Expr} {es : List Expr} {pos : Pos} {rest : List Expr}
theorem d_one {op : BoolOp} (ha : PE X a (tE X.K X.mg W e fa)) : PE X (.BoolOp op [a] pos) (tE X.K X.mg W e fa) := pe_one ha
theorem d_and (ha : PE X a (tE X.K X.mg W e fa)) (hb : PE X (.BoolOp .And (b :: rest) pos) (tE X.K X.mg W e fb)) :
    PE X (.BoolOp .And (a :: b :: rest) pos) (tE X.K X.mg W e fun S => (fa S).bind fun d1 S1 => (Res.of (asBool d1) S1).bind fun k S2 => if k then fb S2 else .ok (.bool false) S2) := by
  refine (pe_and ha hb).mono fun σ H Q ⟨Z, S, s, h⟩ => ?_
  refine ⟨Z, S, s, (Aft.bind (Rel := RelD X.K) h).mono fun v1 H1 ⟨Z1, d1, S1, _, st1, s1, r1, h1⟩ => ?_⟩
  cases q : asBool d1 with
  | none => rw [q] at h1; exact h1.elim
  | some k =>
    rw [q] at h1
    rw [asBool_some q] at r1
    refine ⟨k, r1.bl_inv, ?_⟩
    cases k with
    | true => exact ⟨Z1, S1, s1, h1⟩
    | false => exact h1 _ Z1 H1 .refl s1 (.bl false)
theorem d_or (ha : PE X a (tE X.K X.mg W e fa)) (hb : PE X (.BoolOp .Or (b :: rest) pos) (tE X.K X.mg W e fb)) :
    PE X (.BoolOp .Or (a :: b :: rest) pos) (tE X.K X.mg W e fun S => (fa S).bind fun d1 S1 => (Res.of (asBool d1) S1).bind fun k S2 => if k then .ok (.bool true) S2 else fb S2) := by
  refine (pe_or ha hb).mono fun σ H Q ⟨Z, S, s, h⟩ => ?_
  refine ⟨Z, S, s, (Aft.bind (Rel := RelD X.K) h).mono fun v1 H1 ⟨Z1, d1, S1, _, st1, s1, r1, h1⟩ => ?_⟩
  cases q : asBool d1 with
  | none => rw [q] at h1; exact h1.elim
  | some k =>
    rw [q] at h1
    rw [asBool_some q] at r1
    refine ⟨k, r1.bl_inv, ?_⟩
    cases k with
    | false => exact ⟨Z1, S1, s1, h1⟩
    | true => exact h1 _ Z1 H1 .refl s1 (.bl true)
theorem d_not (ha : PE X a (tE X.K X.mg W e fa)) : PE X (.UnaryOp .Not a pos) (tE X.K X.mg W e fun S => (fa S).bind fun d1 S1 => (Res.of (asBool d1) S1).bind fun k S2 => .ok (.bool (!k)) S2) := by
  refine (pe_not ha).mono fun σ H Q ⟨Z, S, s, h⟩ => ?_
  refine ⟨Z, S, s, (Aft.bind (Rel := RelD X.K) h).mono fun v1 H1 ⟨Z1, d1, S1, _, st1, s1, r1, h1⟩ => ?_⟩
  cases q : asBool d1 with
  | none => rw [q] at h1; exact h1.elim
  | some k =>
    rw [q] at h1
    rw [asBool_some q] at r1
    exact ⟨k, r1.bl_inv, h1 _ Z1 H1 .refl s1 (.bl _)⟩
theorem d_ite (ht : PT X z (tB X.K X.mg W e ft)) (ha : PE X a (tE X.K X.mg W e fa)) (hb : PE X b (tE X.K X.mg W e fb)) :
    PE X (.IfExp z a b pos) (tE X.K X.mg W e fun S => (ft S).bind fun k S1 => if k then fa S1 else fb S1) := by
  refine (pe_ifExp ht ha hb).mono fun σ H Q ⟨Z, S, s, h⟩ => ?_
  refine ⟨Z, S, s, (Aft.bind (Rel := RelB) h).mono fun v1 H1 ⟨Z1, k, S1, _, st1, s1, r1, h1⟩ => ?_⟩
  have r1 : v1 = k := r1
  subst r1
  cases v1 with
  | true => exact ⟨Z1, S1, s1, h1⟩
  | false => exact ⟨Z1, S1, s1, h1⟩
theorem dt_val (hp : plainT a = true) (ha : PE X a (tE X.K X.mg W e fa)) : PT X a (tB X.K X.mg W e fun S => (fa S).bind fun d S1 => Res.of (asBool d) S1) := by
  refine (pt_val ha (isTrue_of hp)).mono fun σ H Q ⟨Z, S, s, h⟩ => ?_
  refine ⟨Z, S, s, (Aft.bind (Rel := RelD X.K) h).mono fun v1 H1 ⟨Z1, d1, S1, _, st1, s1, r1, h1⟩ => ?_⟩
  obtain ⟨k, hk, h2⟩ := Aft.of h1
  rw [asBool_some hk] at r1
  exact ⟨k, r1.bl_inv, h2 k Z1 H1 .refl s1 rfl⟩
theorem dt_not (ht : PT X a (tB X.K X.mg W e ft)) : PT X (.UnaryOp .Not a pos) (tB X.K X.mg W e fun S => (ft S).bind fun k S1 => .ok (!k) S1) := by
  refine (pt_not ht).mono fun σ H Q ⟨Z, S, s, h⟩ => ?_
  refine ⟨Z, S, s, (Aft.bind (Rel := RelB) h).mono fun v1 H1 ⟨Z1, k, S1, _, st1, s1, r1, h1⟩ => ?_⟩
  have r1 : v1 = k := r1
  subst r1
  exact h1 _ Z1 H1 .refl s1 rfl
theorem dw_one {op : BoolOp} (ht : PT X a (tB X.K X.mg W e ft)) : PW X (.BoolOp op [a] pos) (tB X.K X.mg W e ft) := by
  cases op with
  | And => exact pw_and1 ht
  | Or => exact pw_or1 ht
theorem PW.mono {X : Cx} {x : Expr} {t t' : TT} (h : PW X x t) (m : ∀ σ H Q, t' σ H Q → t σ H Q) : PW X x t' := ⟨fun wh pins s σ H Q I hw => h.run wh pins s σ H Q I (m σ H Q hw)⟩
theorem dw_and (ht : PT X a (tB X.K X.mg W e ft)) (hu : PW X (.BoolOp .And (b :: rest) pos) (tB X.K X.mg W e fu)) : PW X (.BoolOp .And (a :: b :: rest) pos) (tB X.K X.mg W e fun S => (ft S).bind fun k S1 => if k then fu S1 else .ok false S1) := by
  refine PW.mono (pw_and ht hu) fun σ H Q ⟨Z, S, s, h⟩ => ?_
  refine ⟨Z, S, s, (Aft.bind (Rel := RelB) h).mono fun v1 H1 ⟨Z1, k, S1, _, st1, s1, r1, h1⟩ => ?_⟩
  have r1 : v1 = k := r1
  subst r1
  cases v1 with
  | true => exact ⟨Z1, S1, s1, h1⟩
  | false => exact h1 _ Z1 H1 .refl s1 rfl
theorem dw_or (ht : PT X a (tB X.K X.mg W e ft)) (hu : PW X (.BoolOp .Or (b :: rest) pos) (tB X.K X.mg W e fu)) : PW X (.BoolOp .Or (a :: b :: rest) pos) (tB X.K X.mg W e fun S => (ft S).bind fun k S1 => if k then .ok true S1 else fu S1) := by
  refine PW.mono (pw_or ht hu) fun σ H Q ⟨Z, S, s, h⟩ => ?_
  refine ⟨Z, S, s, (Aft.bind (Rel := RelB) h).mono fun v1 H1 ⟨Z1, k, S1, _, st1, s1, r1, h1⟩ => ?_⟩
  have r1 : v1 = k := r1
  subst r1
  cases v1 with
  | false => exact ⟨Z1, S1, s1, h1⟩
  | true => exact h1 _ Z1 H1 .refl s1 rfl
/-! argument lists -/
theorem da_nil : PA X [] (tA X.K X.mg W e fun S => .ok [] S) := pa_nil.mono fun σ H Q ⟨Z, S, s, h⟩ => h [] Z H .refl s .nil
theorem da_cons (hp : plainE a = true) (ha : PE X a (tE X.K X.mg W e fa)) (hr : PA X es (tA X.K X.mg W e fs)) : PA X (a :: es) (tA X.K X.mg W e fun S => (fa S).bind fun d S1 => (fs S1).bind fun ds S2 => .ok (d :: ds) S2) := by
  refine (pa_cons ha hr (star_cons hp)).mono fun σ H Q ⟨Z, S, s, h⟩ => ?_
  refine ⟨Z, S, s, (Aft.bind (Rel := RelD X.K) h).mono fun v1 H1 ⟨Z1, d1, S1, _, st1, s1, r1, h1⟩ => ⟨Z1, S1, s1, (Aft.bind (Rel := RelDs X.K) h1).mono fun vs H2 ⟨Z2, ds, S2, _, st2, s2, r2, h2⟩ => ?_⟩⟩
  exact h2 _ Z2 H2 .refl s2 (.cons (R.step st2 r1) r2)
theorem d_tup {k : Nat} (h : PA X es (tA X.K X.mg W e fs)) : PE X (.Tuple es k pos) (tE X.K X.mg W e fun S => (fs S).bind fun ds S1 => if ds.length ≤ sizeLine then .ok (.tuple ds) S1 else .bad) := by
  refine (pe_tup h).mono fun σ H Q ⟨Z, S, s, h⟩ => ?_
  refine ⟨Z, S, s, (Aft.bind (Rel := RelDs X.K) h).mono fun vs H1 ⟨Z1, ds, S1, _, st1, s1, r1, h1⟩ => ?_⟩
  split at h1
  · rename_i hz
    refine ⟨by rw [r1.length]; exact hz, fun p hp => ?_⟩
    have g := Grow.new (o := .tup vs) s1.zi hp
    exact h1 _ _ _ g.step (s1.grow g) (.tup Zn.put_self upd_same (Rs.step g.step r1))
  · exact h1.elim
/-! subscripts -/
theorem d_item (hp : plainE b = true) (ha : PE X a (tE X.K X.mg W e fa)) (hb : PE X b (tE X.K X.mg W e fb)) :
    PE X (.Subscript a b pos) (tE X.K X.mg W e fun S => (fa S).bind fun d1 S1 => (fb S1).bind fun d2 S2 => Res.of (dItem d1 d2) S2) := de_ix ix_seq opd_item ha hb (plainIx_of hp)
/-- what stands at a slot, looked at -/
theorem peek_list {Z : Zn} {H : Hp} {σ : L2.St} {S : Sto} {i : Nat} {d : D} (s : SR X.K e Z H σ S) (h : peek S i = some d) : ∃ v, σ[i]? = some (some v) ∧ (R X.K Z H v d ∨ ∃ a xs ds, v = V.ref a ∧ d = .list ds ∧ H a = some (.lst xs) ∧ Rs X.K Z H xs ds) := by
  unfold peek at h
  split at h
  · rename_i d' hd
    cases h
    obtain ⟨v, h1, r⟩ := s.fro i _ hd
    exact ⟨v, h1, .inl r⟩
  · rename_i o ho
    split at h
    case isFalse => cases h
    rename_i ol
    cases h
    obtain ⟨a, h1, h2, h3, h4⟩ := s.own i o ho
    cases o with
    | obj cls fs => cases ol
    | dct kvs => cases ol
    | dctw kvs => cases ol
    | lst ds =>
      obtain ⟨xs, h5, h6⟩ := h3
      exact ⟨V.ref a, h1, .inr ⟨a, xs, ds, rfl, rfl, h5, h6⟩⟩
  · cases h
theorem pe_nm (ok : CxOk st sc c e W X) {i : Nat} {x : Str} {p : Pos} (hN : st.N[i]? = some x) (hv : visB sc x = true) : PE X (.Name x p) (tVar i) := by
  obtain ⟨v1, v2, v3⟩ := vis_of hv
  exact pe_var (by rw [ok.N]; exact hN) (by rw [ok.sc]; exact v1) v2 v3
theorem d_itemO (ok : CxOk st sc c e W X) {i : Nat} {x : Str} {p : Pos} (hN : st.N[i]? = some x) (hv : visB sc x = true) (hp : plainE b = true) (hb : PE X b (tE X.K X.mg W e fb)) :
    PE X (.Subscript (.Name x p) b pos) (tE X.K X.mg W e fun S => if (peek S i).isSome then (fb S).bind fun d2 S2 => Res.of ((peek S2 i).bind fun d1 => dItem d1 d2) S2 else .bad) := by
  refine (pe_ix ix_seq (pe_nm ok hN hv) hb (plainIx_of hp)).mono fun σ H Q ⟨Z, S, s, h⟩ => ?_
  -- the name's value is the slot's, before and behind
  dsimp only at h
  split at h
  case isFalse => exact h.elim
  rename_i hsome
  have key := Aft.bind (Rel := RelD X.K) h
  show ∃ v, σ[i]? = some (some v) ∧ tE X.K X.mg W e fb σ H fun y H2 => rIx X.K v y H2 Q
  have rest : ∀ v, (σ[i]? = some (some v)) → tE X.K X.mg W e fb σ H fun y H2 => rIx X.K v y H2 Q := fun v hv' => by
    refine ⟨Z, S, s, key.mono fun y H2 ⟨Z2, d2, S2, _, st2, s2, r2, h2⟩ => ?_⟩
    obtain ⟨d, hd, h3⟩ := Aft.of h2
    cases q : peek S2 i with
    | none => rw [q] at hd; cases hd
    | some d1 =>
      rw [q] at hd
      have hd : dItem d1 d2 = some d := hd
      obtain ⟨v', e1, e2⟩ := peek_list s2 q
      rw [hv'] at e1
      cases e1
      rcases e2 with r1 | ⟨a, xs, ds, rfl, rfl, h5, h6⟩
      · exact opd_item Z2 H2 _ _ d1 d2 d _ s2.zi r1 r2 hd fun w Zw Hw gw rw' => h3 w Zw Hw gw.step (s2.grow gw) rw'
      · cases d2 with
        | int j =>
          obtain ⟨k, k2, k3, k4, k5, k6⟩ := atI_get (show atI ds j = some d from hd)
          obtain ⟨w, h7, rw'⟩ := Pd.get h6 k3
          refine .inl ⟨a, xs, j, w, rfl, r2.int_inv, .inl (.inl h5), ?_, h3 w Z2 H2 .refl s2 rw'⟩
          have hd' : atI ds j = some d := hd
          unfold atI at hd' ⊢
          rw [h6.length]
          cases e3 : ixN ds.length j with
          | none => rw [e3] at hd'; cases hd'
          | some kk =>
            obtain ⟨e4, _⟩ := ixN_seq e3
            rw [k2] at e4
            cases e4
            exact h7
        | _ => cases hd
  cases q0 : peek S i with
  | none => rw [q0] at hsome; cases hsome
  | some d0 =>
    obtain ⟨v, e1, _⟩ := peek_list s q0
    exact ⟨v, e1, rest v e1⟩
theorem d_lenO (ok : CxOk st sc c e W X) {i : Nat} {x : Str} {p q : Pos} (hN : st.N[i]? = some x) (hv : visB sc x = true) (hg : glB sc "len" = true) (hbl : st.bl.contains "len" = true) :
    PE X (.Call (.Name "len" q) [.Name x p] [] pos) (tE X.K X.mg W e fun S => Res.of ((peek S i).bind dLen) S) := by
  obtain ⟨g1, g2, g3⟩ := gl_of ok.sc hg
  refine (pe_callB (call_len_seq.or call_len_str) g1 (ok.bl _ hbl) PySem.boot_len (pa_cons (pe_nm ok hN hv) pa_nil)).mono fun σ H Q ⟨Z, S, s, h⟩ => ?_
  obtain ⟨d, hd, h⟩ := Aft.of h
  cases q : peek S i with
  | none => rw [q] at hd; cases hd
  | some d1 =>
    rw [q] at hd
    have hd : dLen d1 = some d := hd
    obtain ⟨v, e1, e2⟩ := peek_list s q
    refine ⟨v, e1, ?_⟩
    rcases e2 with r1 | ⟨a, xs, ds, rfl, rfl, h5, h6⟩
    · unfold dLen at hd
      split at hd
      · cases hd
        obtain ⟨a, xs, rfl, h1, s1⟩ := r1.lst_inv
        exact .inl ⟨a, xs, rfl, .inl h1, by rw [s1.length]; exact h _ Z H .refl s (.int _)⟩
      · cases hd
        obtain ⟨a, xs, rfl, h1, s1⟩ := r1.tup_inv
        exact .inl ⟨a, xs, rfl, .inr h1, by rw [s1.length]; exact h _ Z H .refl s (.int _)⟩
      · split at hd
        · rename_i hz
          cases hd
          exact .inr ⟨_, by rw [r1.str_inv], hz, h _ Z H .refl s (.int _)⟩
        · cases hd
      · cases hd
    · cases hd
      exact .inl ⟨a, xs, rfl, .inl (.inl (.inl h5)), by rw [h6.length]; exact h _ Z H .refl s (.int _)⟩
/-- x in what stands at a slot -/
def rInR (K : PySem.W.Frag) (neg : Bool) : R2 := fun x y H Q => ∃ Z d xs ds b a, R K Z H x d ∧ y = V.ref a ∧ H a = some (.lst xs) ∧ Rs K Z H xs ds ∧ dInB neg d (.list ds) = some b ∧ Q (.bl b) H
theorem op_inR (hu : X.A.units + 80 < cLine) (neg : Bool) : OpR X (compareOp (if neg then .NotIn else .In)) (rInR X.K neg) := by
  intro pins s σ H x y v u Q I rx ry h
  obtain ⟨Z, d, xs, ds, b, a, hd, rfl, ha, hs, g, q⟩ := h
  obtain ⟨as, r1⟩ := hd.rds I rx
  obtain ⟨bs, r2⟩ := Dp.reads I (.list ds) (V.ref a) u (.lst (.inl (.inl ha)) hs.dp) ry
  have pl : PyData.plainAll ds = true := Rs.plain (Pd.imp (fun _ _ h => R.plain h) hs)
  unfold dInB at g
  dsimp only at g
  split at g
  · cases neg with
    | false => cases g; exact PySem.SeqAt.in_list_data r2 r1 pl hd.plain (by omega) ⟨.bl _, H, I, rfl, q⟩
    | true => cases g; exact PySem.SeqAt.notIn_list_data r2 r1 pl hd.plain (by omega) ⟨.bl _, H, I, rfl, q⟩
  · cases g
def gIn (neg : Bool) (a b : D) : Option D := (dInB neg a b).map .bool
theorem op_inN (ok : CxOk st sc c e W X) (neg : Bool) : OpR X (compareOp (if neg then .NotIn else .In)) (fun x y H Q => rCmpD X.K (gIn neg) x y H Q ∨ rInR X.K neg x y H Q) := by
  have hu := ok.units
  cases neg with
  | false => exact OpR.or (op_inP (by omega)) (op_inR (by omega) false)
  | true => exact OpR.or (op_notInP (by omega)) (op_inR (by omega) true)
theorem in_peek (neg : Bool) {Z : Zn} {H : Hp} {σ : L2.St} {S : Sto} {i : Nat} {d1 d2 : D} {k : Bool} {v1 v2 : V} {Q : VK} (s : SR X.K e Z H σ S) (r1 : R X.K Z H v1 d1) (hp : peek S i = some d2) (hv : σ[i]? = some (some v2)) (hk : dInB neg d1 d2 = some k) (hq : Q (.bl k) H) :
    rCmpD X.K (gIn neg) v1 v2 H Q ∨ rInR X.K neg v1 v2 H Q := by
  obtain ⟨v, e1, e2⟩ := peek_list s hp
  rw [hv] at e1
  cases e1
  rcases e2 with r2 | ⟨a, xs, ds, rfl, rfl, h5, h6⟩
  · exact .inl ⟨Z, d1, d2, k, r1, r2, by unfold gIn; rw [hk]; rfl, hq⟩
  · exact .inr ⟨Z, d1, xs, ds, k, a, r1, rfl, h5, h6, hk, hq⟩
theorem d_inO (ok : CxOk st sc c e W X) (neg : Bool) {i : Nat} {x : Str} {p : Pos} (hN : st.N[i]? = some x) (hv : visB sc x = true) (ha : PE X a (tE X.K X.mg W e fa)) :
    PE X (.Compare a [if neg then .NotIn else .In] [.Name x p] pos) (tE X.K X.mg W e fun S => (fa S).bind fun d1 S1 => Res.of ((peek S1 i).bind fun d2 => (dInB neg d1 d2).map .bool) S1) := by
  refine (pe_cmpR (op_inN ok neg) ha (pe_nm ok hN hv) (by cases neg <;> rfl)).mono fun σ H Q ⟨Z, S, s, h⟩ => ?_
  refine ⟨Z, S, s, (Aft.bind (Rel := RelD X.K) h).mono fun v1 H1 ⟨Z1, d1, S1, _, st1, s1, r1, h1⟩ => ?_⟩
  obtain ⟨d, hd, h2⟩ := Aft.of h1
  cases q : peek S1 i with
  | none => rw [q] at hd; cases hd
  | some d2 =>
    rw [q] at hd
    have hd : (dInB neg d1 d2).map PyData.bool = some d := hd
    obtain ⟨v2, e1, _⟩ := peek_list s1 q
    cases q2 : dInB neg d1 d2 with
    | none => rw [q2] at hd; cases hd
    | some k =>
      rw [q2] at hd
      cases hd
      exact ⟨v2, e1, in_peek neg s1 r1 q e1 q2 (h2 _ Z1 H1 .refl s1 (.bl k))⟩
theorem dt_inO (ok : CxOk st sc c e W X) (neg : Bool) {i : Nat} {x : Str} {p : Pos} (hN : st.N[i]? = some x) (hv : visB sc x = true) (ha : PE X a (tE X.K X.mg W e fa)) :
    PT X (.Compare a [if neg then .NotIn else .In] [.Name x p] pos) (tB X.K X.mg W e fun S => (fa S).bind fun d1 S1 => Res.of ((peek S1 i).bind fun d2 => dInB neg d1 d2) S1) := by
  refine (pt_cmpR (op_inN ok neg) ha (pe_nm ok hN hv) (by cases neg <;> rfl)).mono fun σ H Q ⟨Z, S, s, h⟩ => ?_
  refine ⟨Z, S, s, (Aft.bind (Rel := RelD X.K) h).mono fun v1 H1 ⟨Z1, d1, S1, _, st1, s1, r1, h1⟩ => ?_⟩
  obtain ⟨k, hd, h2⟩ := Aft.of h1
  cases q : peek S1 i with
  | none => rw [q] at hd; cases hd
  | some d2 =>
    rw [q] at hd
    have hd : dInB neg d1 d2 = some k := hd
    obtain ⟨v2, e1, _⟩ := peek_list s1 q
    exact ⟨v2, e1, in_peek neg s1 r1 q e1 hd ⟨k, rfl, h2 k Z1 H1 .refl s1 rfl⟩⟩
/-! slices -/
def tPo (K : PySem.W.Frag) (mg : Str → Option Value) (W : WX) (e : Ent) (f : Sto → Res (Option Int)) : TO := fun σ H Q => ∃ Z S, SR K e Z H σ S ∧ Aft K mg W e Z H σ (f S) (fun _ _ _ v d => v = d) Q
theorem PO.mono {x : Option Expr} {t t' : TO} (h : PO X x t) (m : ∀ σ H Q, t' σ H Q → t σ H Q) : PO X x t' := ⟨fun pins s σ H Q I hw => h.run pins s σ H Q I (m σ H Q hw)⟩
theorem dp_none : PO X none (tPo X.K X.mg W e fun S => .ok none S) := PO.mono po_none fun σ H Q ⟨Z, S, s, h⟩ => h none Z H .refl s rfl
theorem dp_some (ha : PE X a (tE X.K X.mg W e fa)) : PO X (some a) (tPo X.K X.mg W e fun S => (fa S).bind fun d S1 => (Res.of (asInt d) S1).bind fun i S2 => .ok (some i) S2) := by
  refine PO.mono (po_some ha) fun σ H Q ⟨Z, S, s, h⟩ => ?_
  refine ⟨Z, S, s, (Aft.bind (Rel := RelD X.K) h).mono fun v1 H1 ⟨Z1, d1, S1, _, st1, s1, r1, h1⟩ => ?_⟩
  cases q : asInt d1 with
  | none => rw [q] at h1; exact h1.elim
  | some i =>
    rw [q] at h1
    rw [asInt_some q] at r1
    exact ⟨i, r1.int_inv, h1 _ Z1 H1 .refl s1 rfl⟩
theorem sl_all : SlR X (rSlAll X.K) := SlR.or (SlR.or sl_list sl_tupA) sl_str
theorem d_slice {lo hi : Option Expr} {fl fh : Sto → Res (Option Int)} {p2 : Pos} (ha : PE X a (tE X.K X.mg W e fa)) (hl : PO X lo (tPo X.K X.mg W e fl)) (hh : PO X hi (tPo X.K X.mg W e fh)) :
    PE X (.Subscript a (.Slice lo hi none p2) pos) (tE X.K X.mg W e fun S => (fa S).bind fun d S1 => (fl S1).bind fun l S2 => (fh S2).bind fun h S3 => Res.of (dSlice d l h) S3) := by
  refine (pe_slice sl_all ha hl hh).mono fun σ H Q ⟨Z, S, s, h⟩ => ?_
  refine ⟨Z, S, s, (Aft.bind (Rel := RelD X.K) h).mono fun v1 H1 ⟨Z1, d1, S1, _, st1, s1, r1, h1⟩ => ⟨Z1, S1, s1, (Aft.bind (Rel := fun _ _ _ v d => v = d) h1).mono fun l1 H2 ⟨Z2, l, S2, _, st2, s2, r2, h2⟩ =>
    ⟨Z2, S2, s2, (Aft.bind (Rel := fun _ _ _ v d => v = d) h2).mono fun u1 H3 ⟨Z3, u, S3, _, st3, s3, r3, h3⟩ => ?_⟩⟩⟩
  have r2 : l1 = l := r2
  have r3 : u1 = u := r3
  subst r2 r3
  obtain ⟨d, hd, h4⟩ := Aft.of h3
  exact sld_all s3.zi (R.step st3 (R.step st2 r1)) hd fun w Zw Hw gw rw' => h4 w Zw Hw gw.step (s3.grow gw) rw'
theorem strs_vals {K : PySem.W.Frag} {Z : Zn} {H : Hp} : ∀ {xs : List V} {ds : List D} {zs : List Str}, Rs K Z H xs ds → strsOf ds = some zs → xs = zs.map V.str
  | [], [], zs, _, h => by cases h; rfl
  | x :: xs, d :: ds, zs, r, h => by
    cases r with
    | cons r1 r2 =>
      cases d with
      | str z =>
        simp only [strsOf] at h
        cases q : strsOf ds with
        | none => rw [q] at h; cases h
        | some ws =>
          rw [q] at h
          cases h
          rw [r1.str_inv, strs_vals r2 q]
          rfl
      | _ => simp [strsOf] at h
  | [], _ :: _, _, r, _ => nomatch r
  | _ :: _, [], _, r, _ => nomatch r
theorem dd_le {xs : List Str} : (dd xs).length ≤ xs.length := by
  have := dd_len xs []
  simpa [dd] using this
theorem ints_vals {K : PySem.W.Frag} {Z : Zn} {H : Hp} : ∀ {xs : List V} {ds : List D} {ns : List Int}, Rs K Z H xs ds → ints? ds = some ns → xs = ns.map V.int
  | [], [], zs, _, h => by cases h; rfl
  | x :: xs, d :: ds, zs, r, h => by
    cases r with
    | cons r1 r2 =>
      cases d with
      | int z =>
        simp only [ints?] at h
        cases q : ints? ds with
        | none => rw [q] at h; cases h
        | some ws =>
          rw [q] at h
          cases h
          rw [r1.int_inv, ints_vals r2 q]
          rfl
      | _ => simp [ints?] at h
  | [], _ :: _, _, r, _ => nomatch r
  | _ :: _, [], _, r, _ => nomatch r
theorem d_lenset (ok : CxOk st sc c e W X) {p1 p2 p3 : Pos} (hg1 : glB sc "len" = true) (hg2 : glB sc "set" = true) (hb1 : st.bl.contains "len" = true) (hb2 : st.bl.contains "set" = true) (hx : plainE a = true) (ha : PE X a (tE X.K X.mg W e fa)) :
    PE X (.Call (.Name "len" p1) [.Call (.Name "set" p2) [a] [] p3] [] pos) (tE X.K X.mg W e fun S => (fa S).bind fun d S1 => Res.of (dLenSet d) S1) := by
  obtain ⟨g1, g2, g3⟩ := gl_of ok.sc hg1
  obtain ⟨k1, k2, k3⟩ := gl_of ok.sc hg2
  refine (pe_callB cr_lenT g1 (ok.bl _ hb1) PySem.boot_len (pa_cons (pe_callTy (CallR.or (cr_setT ok.calm) (cr_setI ok.calm)) k1 (ok.bl _ hb2) (by decide +kernel) (pa_cons ha pa_nil (star_cons hx)) k3 k2 (star_cons hx)) pa_nil (star_cons rfl)) g3 g2 (star_cons rfl)).mono fun σ H Q ⟨Z, S, s, h⟩ => ?_
  refine ⟨Z, S, s, (Aft.bind (Rel := RelD X.K) h).mono fun v1 H1 ⟨Z1, d, S1, _, st1, s1, r1, h1⟩ => ?_⟩
  obtain ⟨d', hd, h2⟩ := Aft.of h1
  have gr : ∀ {l : Addr} {n : Nat}, H1 l = none → Grow Z1 H1 Z1 (upd H1 l (SetN l n)) := fun {l n} hn => ⟨fun _ h => h, fun _ h => .inl h, fun b ob hb => by rw [upd_ne (ne_of_none hb hn)]; exact hb, fun b hb q => by
    by_cases e1 : b = l
    · exact s1.zi b hb (e1 ▸ hn)
    · rw [upd_ne e1] at q; exact s1.zi b hb q⟩
  cases d with
  | tuple ds =>
    simp only [dLenSet] at hd
    obtain ⟨p, xs, rfl, hl, rs⟩ := r1.tup_inv
    split at hd
    · rename_i zs q
      split at hd
      · rename_i hz
        cases hd
        have ex := strs_vals rs q
        subst ex
        exact .inl ⟨p, zs, rfl, hl, hz, fun l hn => ⟨l, (dd zs).length, rfl, upd_same, Nat.le_trans dd_le hz, h2 _ Z1 _ (gr hn).step (s1.grow (gr hn)) (.int _)⟩⟩
      · cases hd
    · split at hd
      · rename_i ns q
        split at hd
        · rename_i hz
          cases hd
          have ex := ints_vals rs q
          subst ex
          exact .inr ⟨p, ns, rfl, hl, hz, fun l hn => ⟨l, (ddI ns).length, rfl, upd_same, Nat.le_trans (ddI_le ns) hz, h2 _ Z1 _ (gr hn).step (s1.grow (gr hn)) (.int _)⟩⟩
        · cases hd
      · cases hd
  | _ => cases hd
theorem d_rev {k : Nat} {p1 p2 p3 : Pos} (ha : PE X a (tE X.K X.mg W e fa)) : PE X (.Subscript a (.Slice none none (some (.UnaryOp .USub (.Constant (.int 1) k p1) p2)) p3) pos) (tE X.K X.mg W e fun S => (fa S).bind fun d S1 => Res.of (dRev d) S1) := by
  refine ⟨fun pins s σ H Q I ⟨Z, S, s0, h⟩ => ?_⟩
  have ab := Aft.bind (Rel := RelD X.K) h
  by_cases hl : ∃ ds S1, fa S = .ok (.list ds) S1
  · -- of a list: a new one
    obtain ⟨ds, S1, hl⟩ := hl
    refine (pe_revL ha).run pins s σ H Q I ⟨Z, S, s0, ab.mono fun v1 H1 ⟨Z1, d1, S2, q, st1, s1, r1, h1⟩ => ?_⟩
    rw [hl] at q
    cases q
    obtain ⟨d, hd, h2⟩ := Aft.of h1
    cases hd
    obtain ⟨a, xs, rfl, sq, rs⟩ := r1.lst_inv
    exact ⟨a, xs, rfl, sq, fun l hn => h2 _ (Z1.put l) _ (Grow.new s1.zi hn).step (s1.grow (Grow.new s1.zi hn)) (.lst Zn.put_self (.inl upd_same) (Pd.rev (Rs.step (Grow.new s1.zi hn).step rs)))⟩
  · refine (pe_back ha).run pins s σ H Q I ⟨Z, S, s0, ab.mono fun v1 H1 ⟨Z1, d1, S1, q, st1, s1, r1, h1⟩ => ?_⟩
    obtain ⟨d, hd, h2⟩ := Aft.of h1
    cases d1 with
    | tuple ts =>
      cases hd
      obtain ⟨p, xs, rfl, hl, rs⟩ := r1.tup_inv
      exact ⟨p, xs, rfl, hl, fun l hn => h2 _ (Z1.put l) _ (Grow.new s1.zi hn).step (s1.grow (Grow.new s1.zi hn)) (.tup Zn.put_self upd_same (Pd.rev (Rs.step (Grow.new s1.zi hn).step rs)))⟩
    | list ts => exact absurd ⟨_, _, q⟩ hl
    | _ => cases hd
end

/-! ### dicts of one's own -/
section
variable {st : Sta} {sc : Scope} {c : Cfg} {e : Ent} {W : WX} {X : Cx}
variable {fa fb fz : Sto → Res D} {a b z : Expr} {pos : Pos}
theorem dct_own (ok : CxOk st sc c e W X) {Z : Zn} {H : Hp} {σ : L2.St} {S : Sto} {i : Nat} {kvs : List (D × D)} (s : SR X.K e Z H σ S) (h : dctAt S i = some kvs) : True ∧ ∃ q, σ[i]? = some (some (V.ref q)) ∧ ¬ Z q ∧ DctSee X.K X.w Z H q kvs := by
  unfold dctAt at h
  split at h
  · rename_i l hl
    cases h
    obtain ⟨q, h1, h2, h3, _⟩ := s.own i _ hl
    refine ⟨trivial, q, h1, h2, ?_⟩
    rw [← ok.cw]
    exact DctAt.see h3
  · rename_i l hl
    cases h
    obtain ⟨q, h1, h2, h3, _⟩ := s.own i _ hl
    refine ⟨trivial, q, h1, h2, ?_⟩
    rw [← ok.cw]
    exact DctW.see h3
  · cases h
theorem dct_mine (ok : CxOk st sc c e W X) {Z : Zn} {H : Hp} {σ : L2.St} {S : Sto} {i : Nat} {kvs : List (D × D)} (s : SR X.K e Z H σ S) (h : dctOwn S i = some kvs) : S[i]? = some (.own (.dct kvs)) ∧ ∃ q, σ[i]? = some (some (V.ref q)) ∧ ¬ Z q ∧ DctAt X.K X.w Z H q kvs := by
  unfold dctOwn at h
  split at h
  · rename_i l hl
    cases h
    obtain ⟨q, h1, h2, h3, _⟩ := s.own i _ hl
    refine ⟨hl, q, h1, h2, ?_⟩
    rw [← ok.cw]
    exact h3
  · cases h
theorem ask_some {α : Type} {S : Sto} {i : Nat} {k : D} {f : Option D → Option α} {r : α} (h : askKV S i k f = some r) : ∃ kvs, dctAt S i = some kvs ∧ keyOk kvs k = true ∧ f (getKV kvs k) = some r := by
  unfold askKV at h
  cases q : dctAt S i with
  | none => rw [q] at h; cases h
  | some kvs =>
    rw [q, Option.bind_some] at h
    split at h
    · exact ⟨kvs, rfl, by assumption, h⟩
    · cases h
theorem d_getD (ok : CxOk st sc c e W X) {i : Nat} {x : Str} {p : Pos} (hN : st.N[i]? = some x) (hv : visB sc x = true) (hp : plainE b = true) (hb : PE X b (tE X.K X.mg W e fb)) :
    PE X (.Subscript (.Name x p) b pos) (tE X.K X.mg W e fun S => if (dctAt S i).isSome then (fb S).bind fun k S1 => Res.of (askKV S1 i k id) S1 else .bad) := by
  refine (pe_ix (ix_getD ok.units) (pe_nm ok hN hv) hb (plainIx_of hp)).mono fun σ H Q ⟨Z, S, s, h⟩ => ?_
  dsimp only at h
  split at h
  case isFalse => exact h.elim
  rename_i hs
  obtain ⟨kv0, h0⟩ := Option.isSome_iff_exists.mp hs
  obtain ⟨_, q, e1, _⟩ := dct_own ok s h0
  refine ⟨V.ref q, e1, Z, S, s, (Aft.bind (Rel := RelD X.K) h).mono fun v1 H1 ⟨Z1, k, S1, _, st1, s1, r1, h1⟩ => ?_⟩
  obtain ⟨d, hd, h2⟩ := Aft.of h1
  obtain ⟨kvs, a1, a2, a3⟩ := ask_some hd
  obtain ⟨_, q', e2, _, da⟩ := dct_own ok s1 a1
  rw [e1] at e2
  cases e2
  exact ⟨q, Z1, kvs, k, d, rfl, da, r1, a2, a3, fun v rv => h2 v Z1 H1 .refl s1 rv⟩
theorem d_hasD (ok : CxOk st sc c e W X) (neg : Bool) {i : Nat} {x : Str} {p : Pos} (hN : st.N[i]? = some x) (hv : visB sc x = true) (ha : PE X a (tE X.K X.mg W e fa)) :
    PE X (.Compare a [if neg then .NotIn else .In] [.Name x p] pos) (tE X.K X.mg W e fun S => (fa S).bind fun k S1 => Res.of (askKV S1 i k fun o => some (.bool (o.isSome != neg))) S1) := by
  refine (pe_cmpR (op_hasD ok.units neg) ha (pe_nm ok hN hv) (by cases neg <;> rfl)).mono fun σ H Q ⟨Z, S, s, h⟩ => ?_
  refine ⟨Z, S, s, (Aft.bind (Rel := RelD X.K) h).mono fun v1 H1 ⟨Z1, k, S1, _, st1, s1, r1, h1⟩ => ?_⟩
  obtain ⟨d, hd, h2⟩ := Aft.of h1
  obtain ⟨kvs, a1, a2, a3⟩ := ask_some hd
  obtain ⟨_, q, e2, _, da⟩ := dct_own ok s1 a1
  cases a3
  exact ⟨V.ref q, e2, q, Z1, kvs, k, rfl, da, r1, a2, h2 _ Z1 H1 .refl s1 (.bl _)⟩
theorem dt_hasD (ok : CxOk st sc c e W X) (neg : Bool) {i : Nat} {x : Str} {p : Pos} (hN : st.N[i]? = some x) (hv : visB sc x = true) (ha : PE X a (tE X.K X.mg W e fa)) :
    PT X (.Compare a [if neg then .NotIn else .In] [.Name x p] pos) (tB X.K X.mg W e fun S => (fa S).bind fun k S1 => Res.of (askKV S1 i k fun o => some (o.isSome != neg)) S1) := by
  refine (pt_cmpR (op_hasD ok.units neg) ha (pe_nm ok hN hv) (by cases neg <;> rfl)).mono fun σ H Q ⟨Z, S, s, h⟩ => ?_
  refine ⟨Z, S, s, (Aft.bind (Rel := RelD X.K) h).mono fun v1 H1 ⟨Z1, k, S1, _, st1, s1, r1, h1⟩ => ?_⟩
  obtain ⟨d, hd, h2⟩ := Aft.of h1
  obtain ⟨kvs, a1, a2, a3⟩ := ask_some hd
  obtain ⟨_, q, e2, _, da⟩ := dct_own ok s1 a1
  cases a3
  exact ⟨V.ref q, e2, q, Z1, kvs, k, rfl, da, r1, a2, _, rfl, h2 _ Z1 H1 .refl s1 rfl⟩
/-- a dict, as the receiver of a method -/
def tyDct (K : PySem.W.Frag) (w : World) (x : V) (H : Hp) : Prop := ∃ a Z kvs, x = V.ref a ∧ DctSee K w Z H a kvs
theorem ty_dct : TyOk X "dict" (tyDct X.K X.w) := by
  intro pins σ H s x v I rx h
  obtain ⟨a, Z, kvs, rfl, hd⟩ := h
  cases rx
  obtain ⟨es, ep, hr, _⟩ := dct_raw I hd
  refine ⟨hr.typeIs, fun b q => ?_⟩
  cases q
  obtain ⟨o, h1, h2, _⟩ := hr
  exact ⟨o, h1, h2.2.1⟩
theorem few_two {env : Env} {p3 : Pos} {x y : Expr} (hx : plainE x = true) (hy : plainE y = true) : ((((backTo p3 (starEach [x, y] env)).all fun x => !x.fst) && (backToKw p3 (keywordEach [] env)).all fun x => x.fst.isSome) && decide (([x, y].length + ([] : List Keyword).length + if ([] : List Keyword).isEmpty = true then 0 else 1) < 30)) = true := by
  cases x <;> first | (cases hx; done) | (cases y <;> first | (cases hy; done) | rfl)
theorem plain_one {env : Env} {p3 : Pos} {y : Expr} (hy : plainE y = true) : (backTo p3 (starEach [y] env)).any (·.1) = false := by
  cases y <;> first | (cases hy; done) | rfl
theorem d_orD (ok : CxOk st sc c e W X) {i : Nat} {x : Str} {p1 p2 : Pos} (hl : (p2.endLine == pos.line) = true) (hN : st.N[i]? = some x) (hv : visB sc x = true) (hb : plainE b = true) (hz : plainE z = true) (pb : PE X b (tE X.K X.mg W e fb)) (pz : PE X z (tE X.K X.mg W e fz)) :
    PE X (.Call (.Attribute (.Name x p1) "get" p2) [b, z] [] pos) (tE X.K X.mg W e fun S => if (dctAt S i).isSome then (fb S).bind fun k S1 => (fz S1).bind fun w S2 => Res.of (askKV S2 i k fun o => some (o.getD w)) S2 else .bad) := by
  refine (pe_mG ty_dct PySem.F.plainAttrs_dict PySem.F.slot_dict_get PySem.F.type_dict_get (mt_getD ok.units) (pe_nm ok hN hv) (pa_cons pb (pa_cons pz pa_nil (star_cons hz)) (star_cons hb)) (hfew := few_two hb hz) (hline := hl) (hs := star_cons hb) (hplain := plain_one hz)).mono fun σ H Q ⟨Z, S, s, h⟩ => ?_
  dsimp only at h
  split at h
  case isFalse => exact h.elim
  rename_i hs
  obtain ⟨kv0, h0⟩ := Option.isSome_iff_exists.mp hs
  obtain ⟨_, q, e1, _, d0⟩ := dct_own ok s h0
  refine ⟨V.ref q, e1, ⟨q, Z, kv0, rfl, d0⟩, Z, S, s, (Aft.bind (Rel := RelD X.K) h).mono fun v1 H1 ⟨Z1, k, S1, _, st1, s1, r1, h1⟩ => ⟨Z1, S1, s1, (Aft.bind (Rel := RelD X.K) h1).mono fun v2 H2 ⟨Z2, w, S2, _, st2, s2, r2, h2⟩ => ?_⟩⟩
  obtain ⟨d, hd, h3⟩ := Aft.of h2
  obtain ⟨kvs, a1, a2, a3⟩ := ask_some hd
  obtain ⟨_, q', e2, _, da⟩ := dct_own ok s2 a1
  rw [e1] at e2
  cases e2
  cases a3
  exact ⟨q, v1, v2, Z2, kvs, k, w, rfl, rfl, da, R.step st2 r1, r2, a2, fun v rv => h3 v Z2 H2 .refl s2 rv⟩
end

/-! ### flat objects of a class -/
theorem fds_look {K : PySem.W.Frag} {Z : Zn} {H : Hp} {f : Str} : ∀ {vs : List (Str × V)} {fs : List (Str × D)}, Fds K Z H vs fs → (∀ d, fs.lookup f = some d → ∃ v, vs.lookup f = some v ∧ R K Z H v d) ∧ (fs.lookup f = none → vs.lookup f = none)
  | _, _, .nil => ⟨fun d h => (by cases h), fun _ => rfl⟩
  | _, _, .cons (a := a) (b := b) h t => by
    obtain ⟨h1, h2⟩ := h
    obtain ⟨n, v⟩ := a
    obtain ⟨n', u⟩ := b
    have h1 : n = n' := h1
    subst h1
    have ih := fds_look (f := f) t
    simp only [List.lookup]
    split
    · exact ⟨fun d e => (by cases e; exact ⟨v, rfl, h2⟩), fun e => (by cases e)⟩
    · exact ih
theorem fds_put {K : PySem.W.Frag} {Z : Zn} {H : Hp} {f : Str} {v : V} {d : D} (r : R K Z H v d) : ∀ {vs : List (Str × V)} {fs : List (Str × D)}, Fds K Z H vs fs → Fds K Z H (putF f v vs) (putD f d fs)
  | _, _, .nil => .cons ⟨rfl, r⟩ .nil
  | _, _, .cons (a := a) (b := b) h t => by
    obtain ⟨h1, h2⟩ := h
    obtain ⟨n, v'⟩ := a
    obtain ⟨n', u⟩ := b
    have h1 : n = n' := h1
    subst h1
    unfold putF putD
    split
    · exact .cons ⟨rfl, r⟩ t
    · exact .cons ⟨rfl, h2⟩ (fds_put r t)
theorem own_obj (ok : CxOk st sc c e W X) {Z : Zn} {H : Hp} {σ : L2.St} {S : Sto} {i : Nat} {cls : Str} {fs : List (Str × D)} {flds : List Str} (s : SR X.K e Z H σ S) (h : S[i]? = some (.own (.obj cls fs))) (hc : st.cls.lookup cls = some flds) :
    ∃ a C dx vs, σ[i]? = some (some (V.ref a)) ∧ ¬ Z a ∧ H a = some (.ins C dx vs) ∧ Fds X.K Z H vs fs ∧ Cls X.K C ∧ X.mg cls = some (.ref C) ∧ ∀ f ∈ flds, NoAttr X.K C f := by
  obtain ⟨a, h1, h2, ⟨C, dx, vs, m, h3, h4⟩, _⟩ := s.own i _ h
  obtain ⟨C', m', c', n'⟩ := (ok.cl cls flds hc).ex
  rw [ok.cmg] at m
  rw [m] at m'
  cases m'
  exact ⟨a, C, dx, vs, h1, h2, h3, h4, c', m, n'⟩
theorem d_fld (ok : CxOk st sc c e W X) {cls f x : Str} {i : Nat} {p : Pos} (hN : st.N[i]? = some x) (hv : visB sc x = true) (hf : ((st.cls.lookup cls).getD []).contains f = true) :
    PE X (.Attribute (.Name x p) f pos) (tE X.K X.mg W e fun S => match S[i]? with
      | some (.own (.obj k fs)) => if k = cls then Res.of (fs.lookup f) S else .bad
      | _ => .bad) := by
  refine (pe_fld (pe_nm ok hN hv) rfl).mono fun σ H Q ⟨Z, S, s, h⟩ => ?_
  dsimp only at h
  split at h
  · rename_i k fs hS
    split at h
    case isFalse => exact h.elim
    rename_i hk
    subst hk
    cases hc : st.cls.lookup k with
    | none => rw [hc] at hf; simp at hf
    | some flds =>
      rw [hc] at hf
      obtain ⟨a, C, dx, vs, h1, h2, h3, h4, h5, h6, h7⟩ := own_obj ok s hS hc
      obtain ⟨d, hd, hq⟩ := Aft.of h
      obtain ⟨v, hv, rv⟩ := (fds_look h4).1 d hd
      exact ⟨V.ref a, h1, a, C, dx, vs, v, rfl, h3, h5, h7 f (by simpa using hf), hv, hq v Z H .refl s rv⟩
  · exact h.elim
end
end Dv

namespace Dv
open PySem PySem.Spec L2 PySem.W
theorem readsAll_of {X : Cx} {pins : List (Addr × Obj)} {σ : L2.St} {H : Hp} {s : Shared} {Z : Zn} (I : Inv X pins σ H s) : ∀ {ys : List V} {ds : List D} {its : List Value}, Rs X.K Z H ys ds → Vals ys its → ∃ as, ReadsAll s.heap its ds as
  | _, _, _, .nil, .nil => ⟨_, .nil⟩
  | _, _, _, .cons r1 t1, .cons r2 t2 => by
    obtain ⟨as, a⟩ := r1.rds I r2
    obtain ⟨bs, b⟩ := readsAll_of I t1 t2
    exact ⟨_, .cons a b⟩
theorem pick_of {K : PySem.W.Frag} {Z : Zn} {H : Hp} : ∀ {ys : List V} {ds : List D} {its : List Value}, Rs K Z H ys ds → Vals ys its → ∀ (i : Nat) (v : Value), its[i]? = some v → ∃ y, RelV y v ∧ R K Z H y (ds.getD i .none)
  | _, _, _, .nil, .nil, i, v, h => by simp at h
  | _, _, _, .cons r1 t1, .cons r2 t2, 0, v, h => by
    have e := Option.some.inj (show some _ = some v from h)
    subst e
    exact ⟨_, r2, r1⟩
  | _, _, _, .cons r1 t1, .cons r2 t2, i + 1, v, h => by
    obtain ⟨y, a, b⟩ := pick_of t1 t2 i v (by simpa using h)
    exact ⟨y, a, by simpa using b⟩
theorem alike1_of {xs : List D} {g : List D → D} {d : D} (h : dPick g xs = some d) : AlikeAll xs ∧ PyData.depthAll xs ≤ 60 ∧ d = g xs := by
  unfold dPick at h
  split at h
  · rename_i q
    cases h
    simp only [Bool.and_eq_true, decide_eq_true_eq] at q
    refine ⟨⟨fun d hd e he => List.all_eq_true.mp (List.all_eq_true.mp q.1.1.1 d hd) e he, fun d hd e => ?_⟩, q.1.2, rfl⟩
    have := List.all_eq_true.mp q.2 d hd
    rw [e] at this
    cases this
  · cases h
theorem pick_ne {xs : List D} {g : List D → D} {d : D} (h : dPick g xs = some d) : ∃ x r, xs = x :: r := by
  cases xs with
  | nil => simp [dPick] at h
  | cons x r => exact ⟨x, r, rfl⟩
def rPick (K : PySem.W.Frag) (g : D → Option D) : List V → Hp → VK → Prop := fun vs H Q => ∃ Z d dd v, vs = [v] ∧ (∀ a, Z a → H a ≠ none) ∧ R K Z H v d ∧ g d = some dd ∧ ∀ y, R K Z H y dd → Q y H
theorem best_mem (f : D → D → Bool) : ∀ (xs : List D) (x : D), xs.foldl (fun a y => if f a y then y else a) x ∈ x :: xs
  | [], x => List.mem_singleton.mpr rfl
  | y :: r, x => by
    rw [List.foldl_cons]
    have h := best_mem f r (if f x y then y else x)
    rcases List.mem_cons.mp h with h | h
    · rw [h]
      split
      · exact List.mem_cons_of_mem _ List.mem_cons_self
      · exact List.mem_cons_self
    · exact List.mem_cons_of_mem _ (List.mem_cons_of_mem _ h)
/-- the thing at i, read once as an item of the list and once as the best of it -/
theorem best_is {X : Cx} {pins : List (Addr × Obj)} {σ : L2.St} {H : Hp} {s : Shared} {Z : Zn} (I : Inv X pins σ H s) {ys : List V} {ds : List D} {its : List Value} (rs : Rs X.K Z H ys ds) (rv : Vals ys its) (al : AlikeAll ds) {i : Nat} {v : Value} (hi : its.toArray[i]? = some v) {h' : Heap} {b : D} {bs : List Addr} (hb : b ∈ ds)
    (r : Reads h' v b bs) (k : ∀ a o, s.heap.get? a = some o → h'.get? a = some o) : ∃ y, RelV y v ∧ R X.K Z H y b := by
  rw [List.getElem?_toArray] at hi
  obtain ⟨y, ry, yd⟩ := pick_of rs rv i v hi
  have lt : i < ds.length := by
    have := (List.getElem?_eq_some_iff.mp hi).1
    rw [← rs.length, rv.length]
    exact this
  have m : ds.getD i .none ∈ ds := by
    rw [List.getD_eq_getElem?_getD, List.getElem?_eq_getElem lt]
    exact List.getElem_mem lt
  obtain ⟨as, r0⟩ := yd.rds (I.kept (t' := 0) k) ry
  have e := alike_unique _ _ v as bs (al.1 _ m _ hb) r0 r
  exact ⟨y, ry, e ▸ yd⟩
section
variable {X : Cx}
theorem cr_min1 (hc : X.calm = true) (hu : X.A.units + 80 < cLine) : CallR X (.builtin "min") (rPick X.K dMin1) := by
  intro pins s σ H vs us Q I r ⟨Z, d, dd, v, e0, zi, rd, hs, q⟩
  subst e0
  unfold dMin1 at hs
  split at hs
  case h_3 => cases hs
  · obtain ⟨al, dp, rfl⟩ := alike1_of hs
    obtain ⟨x, xs, rfl⟩ := pick_ne hs
    obtain ⟨a, ys, rfl, hl, rs⟩ := rd.lst_inv
    obtain ⟨its, rv, hp, hz⟩ := I.list hl
    rw [Vals.ref1 r]
    obtain ⟨as, hr⟩ := readsAll_of I rs rv
    exact PySem.W.min_list_data (I.ok.hd hc) hp.isList hr al (by omega) fun i v h' tk bs hi rb k => by
      obtain ⟨y, ry, yd⟩ := best_is I rs rv al hi (best_mem (fun p q => dataLt q p) xs x) rb k
      exact ⟨y, H, I.kept k, ry, q y yd⟩
  · obtain ⟨al, dp, rfl⟩ := alike1_of hs
    obtain ⟨x, xs, rfl⟩ := pick_ne hs
    obtain ⟨a, ys, rfl, hl, rs⟩ := rd.tup_inv
    obtain ⟨its, rv, hp, hz⟩ := I.tuple hl
    rw [Vals.ref1 r]
    obtain ⟨as, hr⟩ := readsAll_of I rs rv
    exact PySem.W.min_tuple_data (I.ok.hd hc) hp hr al (by omega) fun i v h' tk bs hi rb k => by
      obtain ⟨y, ry, yd⟩ := best_is I rs rv al hi (best_mem (fun p q => dataLt q p) xs x) rb k
      exact ⟨y, H, I.kept k, ry, q y yd⟩
theorem cr_max1 (hc : X.calm = true) (hu : X.A.units + 80 < cLine) : CallR X (.builtin "max") (rPick X.K dMax1) := by
  intro pins s σ H vs us Q I r ⟨Z, d, dd, v, e0, zi, rd, hs, q⟩
  subst e0
  unfold dMax1 at hs
  split at hs
  case h_3 => cases hs
  · obtain ⟨al, dp, rfl⟩ := alike1_of hs
    obtain ⟨x, xs, rfl⟩ := pick_ne hs
    obtain ⟨a, ys, rfl, hl, rs⟩ := rd.lst_inv
    obtain ⟨its, rv, hp, hz⟩ := I.list hl
    rw [Vals.ref1 r]
    obtain ⟨as, hr⟩ := readsAll_of I rs rv
    exact PySem.W.max_list_data (I.ok.hd hc) hp.isList hr al (by omega) fun i v h' tk bs hi rb k => by
      obtain ⟨y, ry, yd⟩ := best_is I rs rv al hi (best_mem dataLt xs x) rb k
      exact ⟨y, H, I.kept k, ry, q y yd⟩
  · obtain ⟨al, dp, rfl⟩ := alike1_of hs
    obtain ⟨x, xs, rfl⟩ := pick_ne hs
    obtain ⟨a, ys, rfl, hl, rs⟩ := rd.tup_inv
    obtain ⟨its, rv, hp, hz⟩ := I.tuple hl
    rw [Vals.ref1 r]
    obtain ⟨as, hr⟩ := readsAll_of I rs rv
    exact PySem.W.max_tuple_data (I.ok.hd hc) hp hr al (by omega) fun i v h' tk bs hi rb k => by
      obtain ⟨y, ry, yd⟩ := best_is I rs rv al hi (best_mem dataLt xs x) rb k
      exact ⟨y, H, I.kept k, ry, q y yd⟩
/-- the lesser of two data -/
def rPick2 (K : PySem.W.Frag) (g : List D → D) : List V → Hp → VK → Prop := fun vs H Q => ∃ Z a b dd v w, vs = [v, w] ∧ (∀ a, Z a → H a ≠ none) ∧ R K Z H v a ∧ R K Z H w b ∧ dPick g [a, b] = some dd ∧ ∀ y, R K Z H y dd → Q y H
end
section
variable {prog : Program} {w : World} {A : Around} {E : Value → Shared → Prop} {s : Shared}
/-- what min does with two things: they stand in a tuple, which is walked -/
theorem min_pair {x y : Value} {Q : Value → Shared → Prop} (go : wpAny (model prog w) A.in1 (pyIter (.ref s.heap.objs.size)) (fun it s₂ => ∃ I fp wr G n P St H bt, it = .ref I ∧ WalksS prog w A.in1 I fp wr G n P St ∧ St 0 s₂ ∧ (∀ b ∈ fp, b < s₂.heap.objs.size) ∧ 0 < n ∧
    (∀ b o, H.get? b = some o → b ∉ wr) ∧ (∀ b o, H.get? b = some o → s₂.heap.get? b = some o) ∧ CmpIn prog w A.in1 .Lt H P bt ∧ ∀ v s', P (argBest bt (n - 1)) v → Moved wr G s₂ s' → Q v s') E { s with heap := s.heap.push { cls := .type "tuple", data := .seq #[x, y] } }) :
    wpAny (model prog w) A (call (.builtin "min") [x, y]) Q E s := by
  have bp : Builtin.Builtins.bindParams "min" ["key", "default"] 0 ⟨[], []⟩ = pure [none, none] := rfl
  have nm : (toString "min" ++ toString ".loop" : String) = "min.loop" := by decide
  apply call_function_tree F.kind_min F.plain_min F.entry_min (F.args_min2 x y)
  show wpAny _ A.in1 (Builtin.Builtins.bindParams "min" ["key", "default"] 0 ⟨[], []⟩ >>= _) _ _ s
  apply wpAny_bind
  apply wpAny_of_eq bp
  show wpAny _ A.in1 (newTuple [x, y] >>= _) _ _ s
  apply wpAny_bind
  refine wpAny_newObj_type ?_
  apply wpAny_bind
  refine wpAny_mono go (fun it s2 ⟨I, fp, wr, G, n, P, St, H, bt, e, W, st0, small, pos, sep, old, cmp, last⟩ => ?_) fun _ _ z => z
  subst e
  apply wpAny_bind
  refine wpAny_newObj_type ?_
  have apart : s2.heap.objs.size ∉ fp := fun m => absurd (small _ m) (Nat.lt_irrefl _)
  have grown : ∀ b o, s2.heap.get? b = some o → (s2.heap.push { cls := .type "list", data := .seq #[] }).get? b = some o := fun b o z => Heap.get?_push_of_some _ z
  rw [nm]
  exact wpAny_pure ⟨plainId_quiet F.plain_min_loop _, codeAny_min_loop_firstH W H sep bt cmp s2.heap.objs.size apart (fresh_in old) _ pos (fun b o z => grown b o (old b o z)) (W.frame 0 s2 _ s2.toks st0 (Nat.le_refl _) fun b _ o z => grown b o z) (Heap.get?_push_size _ rfl) fun v s' hP m => last v s' hP (Moved.drop_new (tk := s2.toks) m (Nat.le_refl _))⟩
theorem min_two_data {x y : Value} {a b : PyData} {as : List Addr} {Q : Value → Shared → Prop} (hh : A.handled = none) (hr : ReadsAll s.heap [x, y] [a, b] as) (ha : AlikeAll [a, b]) (hu : A.units + 1 + PyData.depthAll [a, b] < cLine)
    (q : ∀ (i : Nat) v h' tk bs, [x, y].toArray[i]? = some v → Reads h' v (minD a [b]) bs → (∀ c o, s.heap.get? c = some o → h'.get? c = some o) → Q v { s with heap := h', toks := tk }) : wpAny (model prog w) A (call (.builtin "min") [x, y]) Q E s := by
  have up : ∀ c o, s.heap.get? c = some o → (s.heap.push { cls := .type "tuple", data := .seq #[x, y] }).get? c = some o := fun c o e => Heap.get?_push_of_some _ e
  have tp : (s.heap.push { cls := .type "tuple", data := .seq #[x, y] }).IsTuple s.heap.objs.size #[x, y] := ⟨_, Heap.get?_push_size _ rfl, rfl, 0, rfl⟩
  have hr2 : ReadsAll (s.heap.push { cls := .type "tuple", data := .seq #[x, y] }) (#[x, y] : Array Value).toList [a, b] as := PyProof.Rows.ReadsAll.keeps up hr
  refine min_pair (iter_tupleW (A := A.in1) hh tp fun s2 e W st small sep old => ⟨_, _, _, _, _, _, _, _, _, rfl, W, st, small, (by simp), sep, old, cmpIn_lt (A := A.in1) hr2 ha (by show A.units + 1 + _ < _; exact hu), fun v s' hP m => ?_⟩)
  obtain ⟨h', tk, rfl, kept⟩ := moved_old e rfl m
  obtain ⟨bs, rd, _⟩ := readsAll_atA hr2 _ v hP
  have best := (argBest_fold dataLt PyData.none a [b] 1 (Nat.le_refl _)).2
  have rd : Reads h' v (minD a [b]) bs := reads_keeps kept (by
    have e1 : ([b] : List PyData).take 1 = [b] := rfl
    rw [e1] at best
    unfold minD
    rw [← best]
    exact rd)
  exact q _ v h' tk bs hP rd fun c o z => kept c o (up c o z)
end
section
variable {X : Cx}
theorem cr_min2d (hc : X.calm = true) (hu : X.A.units + 80 < cLine) : CallR X (.builtin "min") (rPick2 X.K minL) := by
  intro pins s σ H vs us Q I r ⟨Z, a, b, dd, v, w, e0, zi, r1, r2, hs, q⟩
  subst e0
  obtain ⟨al, dp, rfl⟩ := alike1_of hs
  have rs : Rs X.K Z H [v, w] [a, b] := .cons r1 (.cons r2 .nil)
  obtain ⟨as, hr⟩ := readsAll_of I rs r
  have len := r.length
  match us, r, hr, len with
  | [x, y], r, hr, _ =>
    exact min_two_data (I.ok.hd hc) hr al (by omega) fun i v h' tk bs hi rb k => by
      obtain ⟨y, ry, yd⟩ := best_is I rs r al hi (best_mem (fun p q => dataLt q p) [b] a) rb k
      exact ⟨y, H, I.kept k, ry, q y yd⟩
end
end Dv

namespace Dv
open PySem PySem.Spec L2
section
variable {st : Sta} {sc : Scope} {c : Cfg} {e : Ent} {W : WX} {X : Cx}
/-! ### built-in functions by data -/
def CallD (K : PySem.W.Frag) (r : List V → Hp → VK → Prop) (g : List D → Option D) : Prop := ∀ (Z : Zn) (H : Hp) (vs : List V) (ds : List D) (d : D) (Q : VK), (∀ a, Z a → H a ≠ none) → Rs K Z H vs ds → g ds = some d →
  (∀ v Z' H', Grow Z H Z' H' → R K Z' H' v d → Q v H') → r vs H Q
theorem ints_some : ∀ {ds : List D} {ns : List Int}, ints? ds = some ns → ds = ns.map .int
  | [], _, h => by cases h; rfl
  | .int i :: r, ns, h => by
    unfold ints? at h
    cases q : ints? r with
    | none => rw [q] at h; cases h
    | some ms => rw [q] at h; cases h; rw [ints_some q]; rfl
  | .none :: r, ns, h => by cases h
  | .bool _ :: r, ns, h => by cases h
  | .str _ :: r, ns, h => by cases h
  | .list _ :: r, ns, h => by cases h
  | .tuple _ :: r, ns, h => by cases h
  | .dict _ :: r, ns, h => by cases h
def rLenAll (K : PySem.W.Frag) : List V → Hp → VK → Prop := fun xs H Q => (∃ p ys, xs = [.ref p] ∧ (SqL K H p ys ∨ SqT K H p ys) ∧ Q (.int ys.length) H) ∨ (∃ z, xs = [.str z] ∧ z.length ≤ sizeLine ∧ Q (.int z.length) H)
theorem cd_one {K : PySem.W.Frag} {r : List V → Hp → VK → Prop} {g : D → Option D} (h : ∀ (Z : Zn) (H : Hp) (v : V) (a d : D) (Q : VK), (∀ a, Z a → H a ≠ none) → R K Z H v a → g a = some d → (∀ v Z' H', Grow Z H Z' H' → R K Z' H' v d → Q v H') → r [v] H Q) : CallD K r (one g) := by
  intro Z H vs ds d Q zi r hd hq
  unfold one at hd
  split at hd
  · cases r with
    | cons r t =>
      cases t
      exact h Z H _ _ d Q zi r hd hq
  · cases hd
theorem cd_two {K : PySem.W.Frag} {r : List V → Hp → VK → Prop} {g : D → D → Option D} (h : ∀ (Z : Zn) (H : Hp) (v w : V) (a b d : D) (Q : VK), (∀ a, Z a → H a ≠ none) → R K Z H v a → R K Z H w b → g a b = some d → (∀ v Z' H', Grow Z H Z' H' → R K Z' H' v d → Q v H') → r [v, w] H Q) : CallD K r (two g) := by
  intro Z H vs ds d Q zi r hd hq
  unfold two at hd
  split at hd
  · cases r with
    | cons r t =>
      cases t with
      | cons r2 t =>
        cases t
        exact h Z H _ _ _ _ d Q zi r r2 hd hq
  · cases hd
theorem cd_len {K : PySem.W.Frag} : CallD K (rLenAll K) BF.len.g := cd_one fun Z H v a d Q zi r hd hq => by
  unfold dLen at hd
  split at hd
  · cases hd
    obtain ⟨a, xs, rfl, h1, s1⟩ := r.lst_inv
    exact .inl ⟨a, xs, rfl, .inl h1, by rw [s1.length]; exact hq _ Z H (.refl zi) (.int _)⟩
  · cases hd
    obtain ⟨a, xs, rfl, h1, s1⟩ := r.tup_inv
    exact .inl ⟨a, xs, rfl, .inr h1, by rw [s1.length]; exact hq _ Z H (.refl zi) (.int _)⟩
  · split at hd
    · rename_i hz
      cases hd
      exact .inr ⟨_, by rw [r.str_inv], hz, hq _ Z H (.refl zi) (.int _)⟩
    · cases hd
  · cases hd
def rSumA (K : PySem.W.Frag) : List V → Hp → VK → Prop := fun vs H Q => ∃ (a : Addr) (ns : List Int), vs = [V.ref a] ∧ (SqL K H a (ns.map V.int) ∨ SqT K H a (ns.map V.int)) ∧ Q (.int ns.sum) H
theorem cr_sumA {X : Cx} (hc : X.calm = true) : CallR X (.builtin "sum") (rSumA X.K) := by
  intro pins s σ H vs us Q I r h
  obtain ⟨a, ns, rfl, hs, q⟩ := h
  rcases hs with hs | hs
  · exact cr_sum hc pins s σ H _ us Q I r ⟨a, ns, rfl, hs, q⟩
  · obtain ⟨its, rv, ht, _⟩ := I.tuple hs
    rw [Vals.ref1 r]
    exact sum_tup (I.ok.hd hc) ht rv.ints fun h' tk t' hk => ⟨.int _, H, I.kept hk, ⟨_, rfl⟩, q⟩
theorem cd_sum {K : PySem.W.Frag} : CallD K (rSumA K) BF.sum.g := cd_one fun Z H v a d Q zi r hd hq => by
  unfold dSum at hd
  split at hd
  · cases q : ints? _ with
    | none => rw [q] at hd; cases hd
    | some ns =>
      rw [q] at hd
      cases hd
      obtain ⟨a, xs, rfl, h1, s1⟩ := r.lst_inv
      rw [ints_some q] at s1
      rw [s1.ints] at h1
      exact ⟨a, ns, rfl, .inl h1, hq _ Z H (.refl zi) (.int _)⟩
  · cases q : ints? _ with
    | none => rw [q] at hd; cases hd
    | some ns =>
      rw [q] at hd
      cases hd
      obtain ⟨a, xs, rfl, h1, s1⟩ := r.tup_inv
      rw [ints_some q] at s1
      rw [s1.ints] at h1
      exact ⟨a, ns, rfl, .inr h1, hq _ Z H (.refl zi) (.int _)⟩
  · cases hd
theorem cd_max {K : PySem.W.Frag} : CallD K (fun xs H Q => ∃ i j, xs = [V.int i, V.int j] ∧ Q (.int (if j > i then j else i)) H) BF.max2.g := cd_two fun Z H v w a b d Q zi r r2 hd hq => by
  unfold dMax at hd
  split at hd
  · cases hd
    exact ⟨_, _, by rw [r.int_inv, r2.int_inv], hq _ Z H (.refl zi) (.int _)⟩
  · cases hd
theorem cd_min {K : PySem.W.Frag} : CallD K (fun xs H Q => (∃ i j, xs = [V.int i, V.int j] ∧ Q (.int (if j < i then j else i)) H) ∨ rPick2 K minL xs H Q) BF.min2.g := cd_two fun Z H v w a b d Q zi r r2 hd hq => by
  unfold dMin at hd
  split at hd
  · cases hd
    exact .inl ⟨_, _, by rw [r.int_inv, r2.int_inv], hq _ Z H (.refl zi) (.int _)⟩
  · exact .inr ⟨Z, _, _, d, v, w, rfl, zi, r, r2, hd, fun y ry => hq y Z H (.refl zi) ry⟩
theorem cd_min1 {K : PySem.W.Frag} : CallD K (rPick K dMin1) BF.min1.g := cd_one fun Z H v a d Q zi r hd hq => ⟨Z, a, d, v, rfl, zi, r, hd, fun y ry => hq y Z H (.refl zi) ry⟩
theorem cd_max1 {K : PySem.W.Frag} : CallD K (rPick K dMax1) BF.max1.g := cd_one fun Z H v a d Q zi r hd hq => ⟨Z, a, d, v, rfl, zi, r, hd, fun y ry => hq y Z H (.refl zi) ry⟩
theorem cd_int {K : PySem.W.Frag} : CallD K (fun xs H Q => (∃ i, xs = [V.int i] ∧ Q (.int i) H) ∨ ∃ k, xs = [V.bl k] ∧ Q (.int (if k then 1 else 0)) H) BF.int1.g := cd_one fun Z H v a d Q zi r hd hq => by
  unfold dInt at hd
  split at hd
  · cases hd; exact .inl ⟨_, by rw [r.int_inv], hq _ Z H (.refl zi) (.int _)⟩
  · cases hd; exact .inr ⟨_, by rw [r.bl_inv], hq _ Z H (.refl zi) (.int _)⟩
  · cases hd
theorem cd_tuple {K : PySem.W.Frag} : CallD K (fun xs H Q => ∃ p ys, xs = [V.ref p] ∧ ((SqL K H p ys ∧ ∀ l, H l = none → Q (.ref l) (upd H l (.tup ys))) ∨ (SqT K H p ys ∧ Q (.ref p) H))) BF.tuple1.g := cd_one fun Z H v a d Q zi r hd hq => by
  unfold dTuple at hd
  split at hd
  · cases hd
    obtain ⟨a, xs, rfl, h1, s1⟩ := r.lst_inv
    exact ⟨a, xs, rfl, .inl ⟨h1, fun l hl => hq _ (Z.put l) _ (Grow.new zi hl) (.tup Zn.put_self upd_same (Rs.step (Grow.new zi hl).step s1))⟩⟩
  · cases hd
    obtain ⟨a, xs, rfl, h1, s1⟩ := r.tup_inv
    exact ⟨a, xs, rfl, .inr ⟨h1, hq _ Z H (.refl zi) r⟩⟩
  · cases hd
variable {fs : Sto → Res (List D)} {fa fb : Sto → Res D} {a b : Expr} {es : List Expr} {pos p q : Pos} {x : Expr}
theorem tCB_of {r : List V → Hp → VK → Prop} {g : List D → Option D} (hg : CallD X.K r g) {σ : L2.St} {H : Hp} {Q : VK} (h : tE X.K X.mg W e (fun S => (fs S).bind fun ds S1 => Res.of (g ds) S1) σ H Q) : tCB r (tA X.K X.mg W e fs) σ H Q := by
  obtain ⟨Z, S, s, h⟩ := h
  refine ⟨Z, S, s, (Aft.bind (Rel := RelDs X.K) h).mono fun v1 H1 ⟨Z1, ds, S1, _, st1, s1, r1, h1⟩ => ?_⟩
  obtain ⟨d, hd, h2⟩ := Aft.of h1
  exact hg Z1 H1 v1 ds d Q s1.zi r1 hd fun v Z' H' gr rv => h2 v Z' H' gr.step (s1.grow gr) rv
theorem d_bf (ok : CxOk st sc c e W X) (bf : BF) (hg : glB sc bf.name = true) (hbl : st.bl.contains bf.name = true) (hx : plainE x = true) (hpl : (backTo pos (starEach es X.env)).any (·.1) = false) (ha : PA X (x :: es) (tA X.K X.mg W e fs)) :
    PE X (.Call (.Name bf.name q) (x :: es) [] pos) (tE X.K X.mg W e fun S => (fs S).bind fun ds S1 => Res.of (bf.g ds) S1) := by
  obtain ⟨g1, g2, g3⟩ := gl_of ok.sc hg
  have m := ok.bl _ hbl
  cases bf with
  | len => exact (pe_callB (call_len_seq.or call_len_str) g1 m PySem.boot_len ha g3 g2 (star_cons hx) hpl).mono fun σ H Q h => tCB_of cd_len h
  | sum => exact (pe_callB (cr_sumA ok.calm) g1 m (by decide +kernel) ha g3 g2 (star_cons hx) hpl).mono fun σ H Q h => tCB_of cd_sum h
  | max2 => exact (pe_callB (call_max2 ok.calm) g1 m (by decide +kernel) ha g3 g2 (star_cons hx) hpl).mono fun σ H Q h => tCB_of cd_max h
  | min2 => exact (pe_callB ((call_min2 ok.calm).or (cr_min2d ok.calm ok.units)) g1 m (by decide +kernel) ha g3 g2 (star_cons hx) hpl).mono fun σ H Q h => tCB_of cd_min h
  | int1 => exact (pe_callTy call_int1 g1 m (by decide +kernel) ha g3 g2 (star_cons hx) hpl).mono fun σ H Q h => tCB_of cd_int h
  | tuple1 => exact (pe_callTy call_tuple_of g1 m (by decide +kernel) ha g3 g2 (star_cons hx) hpl).mono fun σ H Q h => tCB_of cd_tuple h
  | min1 => exact (pe_callB (cr_min1 ok.calm ok.units) g1 m (by decide +kernel) ha g3 g2 (star_cons hx) hpl).mono fun σ H Q h => tCB_of cd_min1 h
  | max1 => exact (pe_callB (cr_max1 ok.calm ok.units) g1 m (by decide +kernel) ha g3 g2 (star_cons hx) hpl).mono fun σ H Q h => tCB_of cd_max1 h
theorem R.tyx {K : PySem.W.Frag} {Z : Zn} {H : Hp} {v : V} {d : D} (r : R K Z H v d) : TyX K H v (.type (tyName d)) := by
  cases r with
  | non => exact .base .non
  | bl b => exact .base (.bl b)
  | int i => exact .base (.int i)
  | str x => exact .base (.str x)
  | lst hz hr h =>
    rcases hr with hr | ⟨o, hr⟩
    · exact .base (.lst hr)
    · exact .base (.frz hr)
  | tup hz hr h => exact .base (.tup hr)
  | klst h t =>
    rcases h with (h | ⟨o, h⟩) | ⟨o, its, n, h1, h2, _⟩
    · cases h
    · cases h
    · exact .kList h1 h2
  | ktup h t =>
    rcases h with (h | ⟨o, h⟩) | ⟨o, its, n, h1, h2, _⟩
    · cases h
    · cases h
    · exact .kTuple h1 h2
theorem d_isi (ok : CxOk st sc c e W X) {ty : String} (hg : glB sc "isinstance" = true) (hbl : st.bl.contains "isinstance" = true) (hg2 : glB sc (tyStr ty) = true) (hbl2 : st.bl.contains (tyStr ty) = true) (hb : bootBuiltins (tyStr ty) = some (.type ty)) (hx : plainE a = true)
    (ha : PE X a (tE X.K X.mg W e fa)) : PE X (.Call (.Name "isinstance" q) [a, .Name (tyStr ty) p] [] pos) (tE X.K X.mg W e fun S => (fa S).bind fun d1 S1 => Res.of (dIsi d1 ty) S1) := by
  obtain ⟨g1, g2, g3⟩ := gl_of ok.sc hg
  obtain ⟨k1, k2, k3⟩ := gl_of ok.sc hg2
  refine (pe_callB call_isi g1 (ok.bl _ hbl) (by decide +kernel) (pa_cons ha (pa_cons (pe_bltn (v := .ty ty) k1 (ok.bl _ hbl2) hb rfl k3 k2) pa_nil) (star_cons hx)) g3 g2 (star_cons hx)).mono fun σ H Q ⟨Z, S, s, h⟩ => ?_
  refine ⟨Z, S, s, (Aft.bind (Rel := RelD X.K) h).mono fun v1 H1 ⟨Z1, d1, S1, _, st1, s1, r1, h1⟩ => ?_⟩
  obtain ⟨d, hd, h2⟩ := Aft.of h1
  unfold dIsi at hd
  cases q : kitB (tyName d1) ty with
  | none => rw [q] at hd; cases hd
  | some k =>
    rw [q] at hd
    cases hd
    exact ⟨v1, .ty ty, _, _, k, rfl, .ty ty, r1.tyx, kit_ty q, h2 _ Z1 H1 .refl s1 (.bl k)⟩
/-! ### calls -/
theorem fat_name {K : PySem.W.Frag} {mg : Str → Option Value} {mts : List (Str × (Str × Str))} {f : Str} {fa : Addr} (h : (mts.lookup f).isNone = true) (a : FAt K mg mts f fa) : mg f = some (.ref fa) ∧ PySem.W.keepIn K (.ref fa) = true := by
  unfold FAt at a
  rw [Option.isNone_iff_eq_none.mp h] at a
  exact a
theorem FnsOk.head {P : Program} {w : World} {K : PySem.W.Frag} {mg : Str → Option Value} {base : Heap} {fns : List (Str × Kd)} {mts : List (Str × (Str × Str))} {T : Tz} {r : RunF} {rs : List RunF} (h : FnsOk P w K T mg base mts fns (r :: rs)) {f : Str} {io : Kd} (hf : fns.lookup f = some io) :
    FnFact P w K T mg base mts (2 * (r :: rs).length) r f io := h.1 f io hf
theorem pe_absurd {x : Expr} {f : Sto → Res D} (h : ∀ S, f S = .bad) : PE X x (tE X.K X.mg W e f) := ⟨fun pins s σ H Q I ⟨Z, S, sr, q⟩ => by rw [h S] at q; exact q.elim⟩
theorem d_call (ok : CxOk st sc c e W X) {f : Str} (hg : glB sc f = true) (hf : st.fns.lookup f = some .pl) (hmt : (st.mts.lookup f).isNone = true) (hx : plainE x = true) (hpl : (backTo pos (starEach es X.env)).any (·.1) = false) (ha : PA X (x :: es) (tA X.K X.mg W e fs)) :
    PE X (.Call (.Name f q) (x :: es) [] pos) (tE X.K X.mg W e fun S => if c.run.isEmpty then .bad else (fs S).bind fun ds S1 => callR c f ds S1) := by
  obtain ⟨g1, g2, g3⟩ := gl_of ok.sc hg
  have fns := ok.fns
  have room := ok.room
  cases hr : c.run with
  | nil => exact pe_absurd fun S => rfl
  | cons r rs =>
    rw [hr] at fns room
    obtain ⟨fa, fd, ps, mat, m3, F, ar⟩ := (fns.head hf).ex
    obtain ⟨m1, m2⟩ := fat_name hmt mat
    refine (pe_callS (E := WE W) F room g1 m1 m2 m3 ok.lx.pass ha g2 (star_cons hx) hpl).mono fun σ H Q ⟨Z, S, s, h⟩ => ?_
    refine ⟨Z, S, s, (Aft.bind (Rel := RelDs X.K) h).mono fun vs H1 ⟨Z1, ds, S1, _, st1, s1, r1, h1⟩ => ?_⟩
    unfold callR at h1
    rw [hr] at h1
    dsimp only at h1
    have nb : r f none ds ≠ .bad := fun z => by rw [z] at h1; exact h1.elim
    refine ⟨by rw [r1.length]; exact ar none ds nb, Z1, s1.zi, fun a t => ⟨s1.tb a t, s1.tz a t⟩, ds, r1, ?_⟩
    have sc' : ∀ {Z' : Zn} {H' : Hp}, Chg e.T (fun _ => False) Z1 H1 Z' H' → SR X.K e Z' H' σ S1 := fun {Z' H'} g => s1.chg g (fun _ h => h.elim) (fun _ h => h.elim) fun _ h => h.elim
    cases q : r f none ds with
    | bad => exact nb q
    | okF o => rw [q] at h1; exact h1.elim
    | okT _ _ _ => rw [q] at h1; exact h1.elim
    | exc xx => rw [q] at h1; exact fun cls dd Z' H' g rx => h1 cls dd Z' H' g.step (sc' g) rx
    | ok d io =>
      rw [q] at h1
      cases io with
      | none => exact fun v Z' H' g rv => h1 v Z' H' g.step (sc' g) rv
      | some o => exact h1.elim
/-- an owned slot's object was changed by who it was lent to -/
theorem SR.lentP {K : PySem.W.Frag} {Z Z' : Zn} {H H' : Hp} {σ : L2.St} {S : Sto} {i : Nat} {o : Ow} {a : Addr} (s : SR K e Z H σ S) (hi : S[i]? = some (.own o)) (ha : σ[i]? = some (some (V.ref a))) (g : Chg e.T (fun b => b = a) Z H Z' H') (hp : e.P a = none) : SR K e Z' H' σ (S.set i .no) := by
  have hlt : i < S.length := (List.getElem?_eq_some_iff.mp hi).1
  refine (s.kill (i := i)).chg g (fun b hb j o' hj hs => ?_) (fun b hb => ?_) fun b hb => ?_
  · have hb : b = a := hb
    subst hb
    unfold Sto.kill at hj
    by_cases e1 : i = j
    · subst e1
      rw [List.getElem?_set_self hlt] at hj
      cases hj
    · rw [List.getElem?_set_ne e1] at hj
      exact e1 (s.sep i j _ _ b hi hj ha hs)
  · have hb : b = a := hb
    subst hb
    obtain ⟨a', h1, h2, h3, h4⟩ := s.own i o hi
    rw [ha] at h1
    cases h1
    rcases h4 with q | q
    · exact .inl q
    · exact .inr q.1
  · have hb : b = a := hb
    subst hb
    exact hp
theorem SR.free {K : PySem.W.Frag} {Z : Zn} {H : Hp} {σ : L2.St} {S : Sto} {i : Nat} {o : Ow} {a : Addr} (s : SR K e Z H σ S) (hi : S[i]? = some (.own o)) (ha : σ[i]? = some (some (V.ref a))) (hw : o.isW = false) : e.P a = none := by
  cases q : e.P a with
  | none => rfl
  | some o2 => exact absurd ha ((s.pn a o2 q).2.2 i _ hi hw)
theorem SR.lent {K : PySem.W.Frag} {Z Z' : Zn} {H H' : Hp} {σ : L2.St} {S : Sto} {i : Nat} {o : Ow} {a : Addr} (s : SR K e Z H σ S) (hi : S[i]? = some (.own o)) (ha : σ[i]? = some (some (V.ref a))) (g : Chg e.T (fun b => b = a) Z H Z' H') (hw : o.isW = false := by rfl) : SR K e Z' H' σ (S.set i .no) :=
  s.lentP hi ha g (s.free hi ha hw)
theorem SR.backP {K : PySem.W.Frag} {Z Z' : Zn} {H H' : Hp} {σ : L2.St} {S : Sto} {i : Nat} {o o' : Ow} {a : Addr} (s : SR K e Z H σ S) (hi : S[i]? = some (.own o)) (ha : σ[i]? = some (some (V.ref a))) (g : Chg e.T (fun b => b = a) Z H Z' H') (ho : OwnAt K e.T Z' H' a o') (hp : e.P a = none) : SR K e Z' H' σ (S.set i (.own o')) := by
  have hlt : i < S.length := (List.getElem?_eq_some_iff.mp hi).1
  have s1 := s.lentP hi ha g hp
  obtain ⟨a', h1, h2, h3, h4⟩ := s.own i o hi
  rw [ha] at h1
  cases h1
  refine ⟨by rw [← s1.ln]; simp, fun j d hj => ?_, fun j o2 hj => ?_, fun j k o1 o2 b hj hk hbj hbk => ?_, s1.zi, s1.ze, s1.st, s1.kp, s1.mi, fun b o2 hb => ?_, s1.te, s1.tb⟩
  · by_cases e1 : i = j
    · subst e1
      rw [List.getElem?_set_self hlt] at hj
      cases hj
    · exact s1.fro j d (by rw [List.getElem?_set_ne e1] at hj ⊢; exact hj)
  · by_cases e1 : i = j
    · subst e1
      rw [List.getElem?_set_self hlt] at hj
      cases hj
      refine ⟨a, ha, fun z => ?_, ho, h4⟩
      rcases g.n a z with q | q
      · exact h2 q
      · exact h3.there q
    · exact s1.own j o2 (by rw [List.getElem?_set_ne e1] at hj ⊢; exact hj)
  · have get : ∀ (m : Nat) (om : Ow), (S.set i (.own o'))[m]? = some (.own om) → ∃ o2, S[m]? = some (.own o2) := fun m om hm => by
      by_cases e1 : i = m
      · subst e1; exact ⟨o, hi⟩
      · rw [List.getElem?_set_ne e1] at hm; exact ⟨om, hm⟩
    obtain ⟨oj, hj'⟩ := get j _ hj
    obtain ⟨ok, hk'⟩ := get k _ hk
    exact s.sep j k oj ok b hj' hk' hbj hbk
  · obtain ⟨h1, h2, h3⟩ := s1.pn b o2 hb
    refine ⟨h1, h2, fun j o3 hj hw3 => ?_⟩
    by_cases e1 : i = j
    · subst e1
      intro z
      rw [ha] at z
      cases z
      rw [hp] at hb
      cases hb
    · exact h3 j o3 (by rw [List.getElem?_set_ne e1] at hj ⊢; exact hj) hw3
theorem SR.back {K : PySem.W.Frag} {Z Z' : Zn} {H H' : Hp} {σ : L2.St} {S : Sto} {i : Nat} {o o' : Ow} {a : Addr} (s : SR K e Z H σ S) (hi : S[i]? = some (.own o)) (ha : σ[i]? = some (some (V.ref a))) (g : Chg e.T (fun b => b = a) Z H Z' H') (ho : OwnAt K e.T Z' H' a o') (hw : o.isW = false := by rfl) : SR K e Z' H' σ (S.set i (.own o')) :=
  s.backP hi ha g ho (s.free hi ha hw)
theorem d_callIO (ok : CxOk st sc c e W X) {f x : Str} {i : Nat} {p2 : Pos} (hg : glB sc f = true) (hf : st.fns.lookup f = some .io) (hmt : (st.mts.lookup f).isNone = true) (hN : st.N[i]? = some x) (hv : visB sc x = true) (hpl : (backTo pos (starEach es X.env)).any (·.1) = false) (ha : PA X es (tA X.K X.mg W e fs)) :
    PE X (.Call (.Name f q) (.Name x p2 :: es) [] pos) (tE X.K X.mg W e fun S => if c.run.isEmpty || !(isOwn S i) then .bad else (fs S).bind fun ds S1 => callIOR c f i ds S1) := by
  obtain ⟨g1, g2, g3⟩ := gl_of ok.sc hg
  have fns := ok.fns
  have room := ok.room
  cases hr : c.run with
  | nil => exact pe_absurd fun S => rfl
  | cons r rs =>
    rw [hr] at fns room
    obtain ⟨fa, fd, ps, mat, m3, F, ar⟩ := (fns.head hf).ex
    obtain ⟨m1, m2⟩ := fat_name hmt mat
    refine (pe_callS (E := WE W) F room g1 m1 m2 m3 ok.lx.pass (pa_cons (pe_nm ok hN hv) ha (star_cons rfl)) g2 (star_cons rfl) hpl).mono fun σ H Q ⟨Z, S, s, h⟩ => ?_
    dsimp only at h
    split at h
    · exact h.elim
    rename_i hio
    have hown : isOwn S i = true := by
      simp only [List.isEmpty_cons, Bool.false_or, Bool.not_eq_true', Bool.not_eq_false] at hio
      exact hio
    have : ∃ o, S[i]? = some (.own o) := by
      unfold isOwn at hown
      split at hown
      · exact ⟨_, by assumption⟩
      · cases hown
    obtain ⟨o0, ho0⟩ := this
    obtain ⟨a, e1, _⟩ := s.own i o0 ho0
    refine ⟨V.ref a, e1, Z, S, s, (Aft.bind (Rel := RelDs X.K) h).mono fun vs H1 ⟨Z1, ds, S1, _, st1, s1, r1, h1⟩ => ?_⟩
    unfold callIOR at h1
    rw [hr] at h1
    dsimp only at h1
    cases ho : S1[i]? with
    | none => rw [ho] at h1; exact h1.elim
    | some sl =>
      cases sl with
      | no => rw [ho] at h1; exact h1.elim
      | fro d => rw [ho] at h1; exact h1.elim
      | own o =>
        rw [ho] at h1
        dsimp only at h1
        split at h1
        case isTrue => exact h1.elim
        rename_i hw0
        have hw : o.isW = false := by simpa using hw0
        have nb : r f (some o) ds ≠ .bad := fun z => by rw [z] at h1; exact h1.elim
        obtain ⟨a', e1', n1, o1, _⟩ := s1.own i o ho
        rw [e1] at e1'
        cases e1'
        refine ⟨by rw [List.length_cons, r1.length]; exact ar (some o) ds nb, Z1, s1.zi, fun a t => ⟨s1.tb a t, s1.tz a t⟩, a, vs, o, ds, rfl, n1, s1.ownT ho e1, o1, r1, ?_⟩
        cases q : r f (some o) ds with
        | bad => exact nb q
        | okF o => rw [q] at h1; exact h1.elim
        | okT _ _ _ => rw [q] at h1; exact h1.elim
        | exc xx => rw [q] at h1; exact fun cls dd Z' H' g rx => h1 cls dd Z' H' g.step (s1.lent ho e1 g hw) rx
        | ok d io =>
          rw [q] at h1
          cases io with
          | none => exact h1.elim
          | some o' => exact fun v Z' H' g rv rw' => h1 v Z' H' g.step (s1.back ho e1 g rw' hw) rv

/-! ### methods -/
theorem fat_meth {K : PySem.W.Frag} {mg : Str → Option Value} {mts : List (Str × (Str × Str))} {f cls m : Str} {fa : Addr} (h : mts.lookup f = some (cls, m)) (a : FAt K mg mts f fa) : ∃ C, mg cls = some (.ref C) ∧ Cls K C ∧ Meth K C m fa ∧ (m = "__init__" → Mk K C fa) := by
  unfold FAt at a
  rw [h] at a
  exact a
/-- o.m(..), the call on one line, few arguments -/
theorem mcallN {x m : Str} {xs : List Expr} {p1 apos pos : Pos} {env : Env} (hp : (apos.endLine == pos.line) = true) (few : methodCallForm (xs.length + ([] : List Keyword).length) (backTo pos (starEach xs env)) (backToKw pos (keywordEach [] env)) = true) :
    eval (.Call (.Attribute (.Name x p1) m apos) xs [] pos) env = (do
      let ov ← eval (.Name x p1) env
      standAt apos.atName
      let (f, first) ← holding [ov] (getMethod ov m (do return (← importBound (.Name x p1) env).getD true))
      callWith pos f first (backTo pos (starEach xs env)) (backToKw pos (keywordEach [] env))) := by
  rw [arm_eval_Call]
  have cp : methodCallPos true (.Name x p1) env apos pos = pure pos := by
    unfold methodCallPos
    rw [hp]
    rfl
  have ab : attributeBase (.Name x p1) m env (eval (.Name x p1) env) = eval (.Name x p1) env := rfl
  unfold methodCall
  rw [few, cp, ab]
  rfl
theorem form_of {st : Sta} {sc : Scope} {env : Env} {pos : Pos} {es : CEs} {xs : List Expr} (h : chks st sc es xs = true) (hl : xs.length < 20) : methodCallForm (xs.length + ([] : List Keyword).length) (backTo pos (starEach xs env)) (backToKw pos (keywordEach [] env)) = true := by
  have a := hpl_of (env := env) (pos := pos) h
  have b : (backTo pos (starEach xs env)).all (fun x => !x.1) = true := by
    rw [List.all_eq_not_any_not]
    simpa using a
  unfold methodCallForm
  rw [b]
  have e : (backToKw pos (keywordEach [] env)).all (fun x => x.1.isSome) = true := rfl
  have e2 : (backToKw pos (keywordEach [] env)).isEmpty = true := rfl
  rw [e, e2]
  simp
  omega
/-- an object of the caller's own is lent to a def -/
theorem io_sp (ok : CxOk st sc c e W X) {f : Str} {i : Nat} {r : RunF} {rs : List RunF} {ps : List Str} {ds : List D} {vs : List V} {Z1 : Zn} {H1 : Hp} {σ : L2.St} {S1 : Sto} {Q : VK} {a : Addr} {o : Ow} (hr : c.run = r :: rs) (ar : ∀ oi ds, r f oi ds ≠ .bad → (match oi with | some _ => ds.length + 1 = ps.length | none => ds.length = ps.length))
    (s1 : SR X.K e Z1 H1 σ S1) (ho : S1[i]? = some (.own o)) (e1 : σ[i]? = some (some (V.ref a))) (r1 : Rs X.K Z1 H1 vs ds) (h1 : Aft X.K X.mg W e Z1 H1 σ (callIOR c f i ds S1) (RelD X.K) Q) : spD X.K e.T X.mg .io ps.length (r f) (V.ref a :: vs) H1 Q (WE W σ) := by
  unfold callIOR at h1
  rw [hr] at h1
  dsimp only at h1
  rw [ho] at h1
  dsimp only at h1
  split at h1
  case isTrue => exact h1.elim
  rename_i hw0
  have hw : o.isW = false := by simpa using hw0
  have nb : r f (some o) ds ≠ .bad := fun z => by rw [z] at h1; exact h1.elim
  obtain ⟨a', e1', n1, o1, _⟩ := s1.own i o ho
  rw [e1] at e1'
  cases e1'
  refine ⟨by rw [List.length_cons, r1.length]; exact ar (some o) ds nb, Z1, s1.zi, fun a t => ⟨s1.tb a t, s1.tz a t⟩, a, vs, o, ds, rfl, n1, s1.ownT ho e1, o1, r1, ?_⟩
  cases q : r f (some o) ds with
  | bad => exact nb q
  | okF o => rw [q] at h1; exact h1.elim
  | okT _ _ _ => rw [q] at h1; exact h1.elim
  | exc xx => rw [q] at h1; exact fun cls dd Z' H' g rx => h1 cls dd Z' H' g.step (s1.lent ho e1 g hw) rx
  | ok d io =>
    rw [q] at h1
    cases io with
    | none => exact h1.elim
    | some o' => exact fun v Z' H' g rv rw' => h1 v Z' H' g.step (s1.back ho e1 g rw' hw) rv
theorem obj_at {S : Sto} {i : Nat} {cls m : Str} (h : isObj S i cls m = true) : ∃ fl, S[i]? = some (.own (.obj cls fl)) ∧ fl.lookup m = none := by
  unfold isObj at h
  split at h
  · rename_i k fl hS
    rw [Bool.and_eq_true] at h
    exact ⟨fl, by rw [hS, of_decide_eq_true h.1], Option.isNone_iff_eq_none.mp h.2⟩
  · cases h
theorem obj_heap {Z : Zn} {H : Hp} {σ : L2.St} {S : Sto} {i : Nat} {cls m : Str} {fl : List (Str × D)} {C : Addr} (s : SR X.K e Z H σ S) (ok : CxOk st sc c e W X) (ho : S[i]? = some (.own (.obj cls fl))) (ln : fl.lookup m = none) (mC : X.mg cls = some (.ref C)) :
    ∃ a dx vs, σ[i]? = some (some (V.ref a)) ∧ H a = some (.ins C dx vs) ∧ vs.lookup m = none := by
  obtain ⟨a, e1, _, ⟨C0, dx, vs, m0, h3, h4⟩, _⟩ := s.own i _ ho
  rw [ok.cmg, mC] at m0
  cases m0
  exact ⟨a, dx, vs, e1, h3, (fds_look h4).2 ln⟩
theorem d_meth (ok : CxOk st sc c e W X) {cls m f x : Str} {i : Nat} {p1 p2 : Pos} {y : Expr} {ys : List Expr} (hl : (p2.endLine == pos.line) = true) (hN : st.N[i]? = some x) (hv : visB sc x = true) (hf : st.fns.lookup f = some .io) (hmt : st.mts.lookup f = some (cls, m)) (hy : plainE y = true)
    (few : methodCallForm ((y :: ys).length + ([] : List Keyword).length) (backTo pos (starEach (y :: ys) X.env)) (backToKw pos (keywordEach [] X.env)) = true) (hpl : (backTo pos (starEach ys X.env)).any (·.1) = false) (ha : PA X (y :: ys) (tA X.K X.mg W e fs)) :
    PE X (.Call (.Attribute (.Name x p1) m p2) (y :: ys) [] pos) (tE X.K X.mg W e fun S => if c.run.isEmpty || !(isObj S i cls m) then .bad else (fs S).bind fun ds S1 => if isObj S1 i cls m then callIOR c f i ds S1 else .bad) := by
  have fns := ok.fns
  have room := ok.room
  cases hr : c.run with
  | nil => exact pe_absurd fun S => rfl
  | cons r rs =>
    rw [hr] at fns room
    obtain ⟨fa, fd, ps, mat, m3, F, ar⟩ := (fns.head hf).ex
    obtain ⟨C, mC, hC, hM, _⟩ := fat_meth hmt mat
    refine ⟨fun pins s0 σ H Q I ⟨Z, S, s, h⟩ => ?_⟩
    dsimp only at h
    split at h
    · exact h.elim
    rename_i hob
    obtain ⟨fl0, ho0, ln0⟩ := obj_at (by simpa using hob : isObj S i cls m = true)
    obtain ⟨a, dx, vs0, e1, hH, lv⟩ := obj_heap s ok ho0 ln0 mC
    refine PySem.W.methodCall_KW (thn ((pe_nm ok hN hv).run pins s0 σ H (fun v H' => v = V.ref a ∧ H' = H) I ⟨V.ref a, e1, rfl, rfl⟩) fun u s1 ⟨x1, H1, I1, rx, ex, eH⟩ => ?_) (mcallN hl few)
    subst ex eH
    obtain rfl : u = Value.ref a := rx
    refine getmeth_ok I1 hH hC hM lv ?_
    refine PySem.W.callWith_K (first := [.ref a]) (h₀ := X.base) I.ok.mod.kin hM.kp (thn (ha.run pos pins s1 σ H1 (fun vs H2 => spD X.K e.T X.mg .io ps.length (r f) (V.ref a :: vs) H2 Q (WE W σ)) I1 ⟨Z, S, s, (Aft.bind (Rel := RelDs X.K) h).mono fun vs H2 ⟨Z1, ds, S1, _, st1, s1, r1, h1⟩ => ?_⟩) fun us s2 ⟨vs, H2, I2, rv, q2⟩ => ⟨I2.kIn, ?_⟩) (star_cons hy) hpl
    · split at h1
      case isFalse => exact h1.elim
      rename_i hob1
      obtain ⟨fl, ho, _⟩ := obj_at hob1
      exact io_sp ok hr ar s1 ho e1 r1 h1
    · exact run_fnS (us := .ref a :: us) (vs := .ref a :: vs) F room m3 (ok.lx.pass σ) I2 (.cons rfl rv) q2
theorem d_meth0 (ok : CxOk st sc c e W X) {cls m f x : Str} {i : Nat} {p1 p2 : Pos} (hl : (p2.endLine == pos.line) = true) (hN : st.N[i]? = some x) (hv : visB sc x = true) (hf : st.fns.lookup f = some .io) (hmt : st.mts.lookup f = some (cls, m)) :
    PE X (.Call (.Attribute (.Name x p1) m p2) [] [] pos) (tE X.K X.mg W e fun S => if c.run.isEmpty || !(isObj S i cls m) then .bad else if isObj S i cls m then callIOR c f i [] S else .bad) := by
  have fns := ok.fns
  have room := ok.room
  cases hr : c.run with
  | nil => exact pe_absurd fun S => rfl
  | cons r rs =>
    rw [hr] at fns room
    obtain ⟨fa, fd, ps, mat, m3, F, ar⟩ := (fns.head hf).ex
    obtain ⟨C, mC, hC, hM, _⟩ := fat_meth hmt mat
    refine ⟨fun pins s0 σ H Q I ⟨Z, S, s, h⟩ => ?_⟩
    dsimp only at h
    split at h
    · exact h.elim
    rename_i hob
    have hob : isObj S i cls m = true := by simpa using hob
    rw [if_pos hob] at h
    obtain ⟨fl0, ho0, ln0⟩ := obj_at hob
    obtain ⟨a, dx, vs0, e1, hH, lv⟩ := obj_heap s ok ho0 ln0 mC
    refine PySem.W.methodCall_KW (thn ((pe_nm ok hN hv).run pins s0 σ H (fun v H' => v = V.ref a ∧ H' = H) I ⟨V.ref a, e1, rfl, rfl⟩) fun u s1 ⟨x1, H1, I1, rx, ex, eH⟩ => ?_) (mcallN hl rfl)
    subst ex eH
    obtain rfl : u = Value.ref a := rx
    refine getmeth_ok I1 hH hC hM lv ?_
    exact PySem.W.callWith_K0 (first := [.ref a]) I1.kIn hM.kp (run_fnS (us := [.ref a]) (vs := [.ref a]) F room m3 (ok.lx.pass σ) I1 (.cons rfl .nil) (io_sp ok hr ar s ho0 e1 .nil h))
end
end Dv

namespace Dv
open PySem PySem.Spec L2
section
variable {st : Sta} {sc : Scope} {c : Cfg} {e : Ent} {W : WX} {X : Cx}
variable {fs : Sto → Res (List D)} {fa fb : Sto → Res D} {a b : Expr} {es : List Expr} {pos p q : Pos} {x : Expr}
/-! ### lists of one's own -/
theorem d_lst (h : PA X es (tA X.K X.mg W e fs)) : PE X (.List es pos) (tF X.K X.mg W e fun S => (fs S).bind fun ds S1 => if ds.length ≤ sizeLine then .ok (.lst ds) S1 else .bad) := by
  refine (pe_lst h).mono fun σ H Q ⟨Z, S, s, h⟩ => ?_
  refine ⟨Z, S, s, (Aft.bind (Rel := RelDs X.K) h).mono fun vs H1 ⟨Z1, ds, S1, _, st1, s1, r1, h1⟩ => ?_⟩
  split at h1
  · rename_i hz
    refine ⟨by rw [r1.length]; exact hz, fun p hp => ?_⟩
    obtain ⟨g, rf⟩ := relF_new s1 hp r1
    exact h1 _ Z1 _ g.step (s1.grow g) rf
  · exact h1.elim
/-- a written list, a written number of times: the library's own repeat -/
theorem d_rep {k : Int} {j : Nat} {p1 p2 : Pos} (h : PA X es (tA X.K X.mg W e fs)) : PE X (.BinOp (.List es p1) .Mult (.Constant (.int k) j p2) pos) (tF X.K X.mg W e fun S => (fs S).bind fun ds S1 => if ds.length ≤ sizeLine then Res.of ((dRep (.list ds) (.int k)).map Ow.lst) S1 else .bad) := by
  refine (pe_op op_rep (pe_lst h) pe_int).mono fun σ H Q ⟨Z, S, s, h⟩ => ?_
  refine ⟨Z, S, s, (Aft.bind (Rel := RelDs X.K) h).mono fun vs H1 ⟨Z1, ds, S1, _, st1, s1, r1, h1⟩ => ?_⟩
  split at h1
  · rename_i hz
    refine ⟨by rw [r1.length]; exact hz, fun p hp => ?_⟩
    obtain ⟨g, _⟩ := relF_new s1 hp r1
    obtain ⟨o, ho, h2⟩ := Aft.of h1
    unfold dRep at ho
    simp only at ho
    split at ho
    · rename_i hk
      cases ho
      refine ⟨p, k, vs, rfl, rfl, upd_same, hk.1, hk.2.1, by rw [r1.length]; exact hk.2.2, fun b hb => ?_⟩
      obtain ⟨g2, rf⟩ := relF_new (s1.grow g) hb (Rs.reps (Rs.step g.step r1) k.toNat)
      exact h2 _ Z1 _ (g.step.trans g2.step) ((s1.grow g).grow g2) rf
    · cases ho
  · exact h1.elim
theorem grow_new {Z : Zn} {H : Hp} {σ : L2.St} {S : Sto} {p : Addr} (o : HO) (s : SR X.K e Z H σ S) (hp : H p = none) : Grow Z H Z (upd H p o) := ⟨fun _ h => h, fun _ h => .inl h, fun a o h => by rw [upd_ne (ne_of_none h hp)]; exact h, fun a h q => by
    by_cases e : a = p
    · exact s.zi p (e ▸ h) hp
    · rw [upd_ne e] at q; exact s.zi a h q⟩
theorem d_dnew : PE X (.Dict [] [] pos) (tF X.K X.mg W e fun S => .ok (.dct []) S) :=
  pe_dnewK.mono fun σ H Q ⟨Z, S, s, h⟩ p hp => h _ Z _ (grow_new _ s hp).step (s.grow (grow_new _ s hp)) ⟨p, rfl, fun z => s.zi p z hp, .inl ⟨[], upd_same, .nil⟩, s.new hp, fun j o' hj => s.newO hp j o' hj, s.newP hp⟩
/-- return x -/
theorem d_give (ok : CxOk st sc c e W X) {i : Nat} {v : Str} (hN : st.N[i]? = some v) (hv : visB sc v = true) : PE X (.Name v p) (tF X.K X.mg W e (giveR c.io i)) := by
  refine (pe_nm ok hN hv).mono fun σ H Q ⟨Z, S, s, h⟩ => ?_
  unfold giveR at h
  split at h
  case h_2 => exact h.elim
  rename_i o hi
  split at h
  case isTrue => exact h.elim
  rename_i hc
  simp only [Bool.or_eq_true, Bool.and_eq_true, beq_iff_eq, not_or, not_and, Bool.not_eq_true] at hc
  obtain ⟨a, ha, nz, oa, hm⟩ := s.own i o hi
  have eH : e.H a = none := by
    rcases hm with q | ⟨q1, q2⟩
    · exact q
    · cases io : c.io with
      | false => exact absurd q1 (ok.io io a)
      | true => exact absurd q2 (hc.2 io)
  have hlt : i < S.length := (List.getElem?_eq_some_iff.mp hi).1
  refine ⟨V.ref a, ha, h _ Z H .refl (s.kill (i := i)) ⟨a, rfl, nz, oa, eH, fun j o' hj hs => ?_, s.free hi ha hc.1⟩⟩
  have hj : (S.set i .no)[j]? = some (.own o') := hj
  by_cases q : i = j
  · subst q
    rw [List.getElem?_set_self hlt] at hj
    cases hj
  · rw [List.getElem?_set_ne q] at hj
    exact q (s.sep i j _ _ a hi hj ha hs)
/-- list(d) -/
theorem d_keysD (ok : CxOk st sc c e W X) {i : Nat} {v : Str} (hg : glB sc "list" = true) (hbl : st.bl.contains "list" = true) (hN : st.N[i]? = some v) (hv : visB sc v = true) :
    PE X (.Call (.Name "list" q) [.Name v p] [] pos) (tF X.K X.mg W e fun S => Res.of ((dctAt S i).map fun kvs => Ow.lst (kvs.map (·.1))) S) := by
  obtain ⟨g1, g2, g3⟩ := gl_of ok.sc hg
  refine (pe_callTy (cr_listD ok.calm) g1 (ok.bl _ hbl) (by decide +kernel) (pa_cons (pe_nm ok hN hv) pa_nil (star_cons rfl)) g3 g2 (star_cons rfl)).mono fun σ H Q ⟨Z, S, s, h⟩ => ?_
  obtain ⟨o, ho, h2⟩ := Aft.of h
  cases k : dctAt S i with
  | none => rw [k] at ho; cases ho
  | some kvs =>
    rw [k] at ho
    cases ho
    obtain ⟨_, w, e1, _, da⟩ := dct_own ok s k
    refine ⟨V.ref w, e1, w, Z, kvs, rfl, da, fun l ys hl rs => ?_⟩
    obtain ⟨g, rf⟩ := relF_new s hl rs
    exact h2 _ Z _ g.step (s.grow g) rf
/-- a written list, so many times as a value says: the list stands still while the value is made -/
theorem d_repE {p1 : Pos} (h : PA X es (tA X.K X.mg W e fs)) (hb : PE X b (tE X.K X.mg W e fb)) : PE X (.BinOp (.List es p1) .Mult b pos) (tF X.K X.mg W e fun S => (fs S).bind fun ds S1 => if ds.length ≤ sizeLine then (fb S1).bind fun d S2 => Res.of ((dRep (.list ds) d).map Ow.lst) S2 else .bad) := by
  refine (pe_op op_rep (pe_lst h) hb).mono fun σ H Q ⟨Z, S, s, h⟩ => ?_
  refine ⟨Z, S, s, (Aft.bind (Rel := RelDs X.K) h).mono fun vs H1 ⟨Z1, ds, S1, _, st1, s1, r1, h1⟩ => ?_⟩
  split at h1
  case isFalse => exact h1.elim
  rename_i hz
  refine ⟨by rw [r1.length]; exact hz, fun p hp => ?_⟩
  obtain ⟨g, q, eq, nz, ow, he, hj, hP⟩ := relF_new s1 hp r1
  cases eq
  have s2 := (s1.grow g).put ow.there he hj hP
  have st2 : Step Z1 H1 (Z1.put p) (upd H1 p (.lst vs)) := g.step.trans ⟨fun _ z => .inl z, fun _ _ _ z => z⟩
  refine ⟨Z1.put p, S1, s2, (Aft.bind (Rel := RelD X.K) (Aft.step st2 h1)).mono fun v2 H2 ⟨Z2, d2, S2, _, st3, s3, r3, h3⟩ => ?_⟩
  obtain ⟨o, ho, h4⟩ := Aft.of h3
  cases d2 with
  | int k =>
    unfold dRep at ho
    simp only at ho
    split at ho
    · rename_i hk
      cases ho
      obtain rfl := r3.int_inv
      refine ⟨p, k, vs, rfl, rfl, st3.h p _ Zn.put_self upd_same, hk.1, hk.2.1, by rw [r1.length]; exact hk.2.2, fun b hb => ?_⟩
      obtain ⟨g2, rf⟩ := relF_new s3 hb (Rs.reps (Rs.step (st2.trans st3) r1) k.toNat)
      exact h4 _ Z2 _ g2.step (s3.grow g2) rf
    · cases ho
  | _ => cases ho
theorem d_cat (ha : PE X a (tE X.K X.mg W e fa)) (hb : PE X b (tE X.K X.mg W e fb)) :
    PE X (.BinOp a .Add b pos) (tF X.K X.mg W e fun S => (fa S).bind fun d1 S1 => (fb S1).bind fun d2 S2 => Res.of ((dCat d1 d2).map Ow.lst) S2) :=
  (pe_op op_catL ha hb).mono fun σ H Q h => tOpF_of opf_cat h
/-- a built-in that makes a list -/
def CallF (K : PySem.W.Frag) (r : List V → Hp → VK → Prop) (g : D → Option (List D)) : Prop := ∀ (Z : Zn) (H : Hp) (v : V) (d : D) (ds : List D) (Q : VK), (∀ a, Z a → H a ≠ none) → R K Z H v d → g d = some ds →
  (∀ p xs H', (∀ a o, H a = some o → H' a = some o) → H p = none → H' p = some (.lst xs) → (∀ a, H' a ≠ none → H a = none → a ≠ p → True) → Rs K Z H' xs ds → Q (V.ref p) H') → r [v] H Q
theorem cf_list {K : PySem.W.Frag} : CallF K (fun xs H Q => ∃ p ys, xs = [V.ref p] ∧ (SqL K H p ys ∨ SqT K H p ys) ∧ ∀ l, H l = none → Q (.ref l) (upd H l (.lst ys))) dListOf := by
  intro Z H v d ds Q zi r hd hq
  have fin : ∀ (ys : List V), Rs K Z H ys ds → ∀ l, H l = none → Q (.ref l) (upd H l (.lst ys)) := fun ys rs l hl =>
    hq l ys _ (fun a o h => by rw [upd_ne (ne_of_none h hl)]; exact h) hl upd_same (fun _ _ _ _ => trivial) (Rs.step ⟨fun _ h => h, fun a o _ h => by rw [upd_ne (ne_of_none h hl)]; exact h⟩ rs)
  unfold dListOf at hd
  split at hd
  · cases hd
    obtain ⟨a, xs, rfl, h1, s1⟩ := r.lst_inv
    exact ⟨a, xs, rfl, .inl h1, fin xs s1⟩
  · cases hd
    obtain ⟨a, xs, rfl, h1, s1⟩ := r.tup_inv
    exact ⟨a, xs, rfl, .inr h1, fin xs s1⟩
  · cases hd
theorem tCF_of {r : List V → Hp → VK → Prop} {g : D → Option (List D)} (hg : CallF X.K r g) {σ : L2.St} {H : Hp} {Q : VK} (h : tF X.K X.mg W e (fun S => (fa S).bind fun d S1 => Res.of ((g d).map Ow.lst) S1) σ H Q) : tCB r (tCons (tE X.K X.mg W e fa) tNil) σ H Q := by
  obtain ⟨Z, S, s, h⟩ := h
  refine ⟨Z, S, s, (Aft.bind (Rel := RelD X.K) h).mono fun v1 H1 ⟨Z1, d, S1, _, st1, s1, r1, h1⟩ => ?_⟩
  obtain ⟨o, ho, h2⟩ := Aft.of h1
  cases q : g d with
  | none => rw [q] at ho; cases ho
  | some ds =>
    rw [q] at ho
    cases ho
    refine hg Z1 H1 v1 d ds Q s1.zi r1 q fun p xs H' k hp hp' _ rs => ?_
    have nz : ¬ Z1 p := fun z => s1.zi p z hp
    have g : Grow Z1 H1 Z1 H' := ⟨fun _ h => h, fun _ h => .inl h, k, fun a h q => by
      cases e1 : H1 a with
      | none => exact s1.zi a h e1
      | some o => rw [k a o e1] at q; cases q⟩
    refine h2 _ Z1 H' g.step (s1.grow g) ⟨p, rfl, nz, ⟨xs, hp', rs⟩, s1.new hp, fun j o' hj => s1.newO hp j o' hj, s1.newP hp⟩
theorem d_bl1 (ok : CxOk st sc c e W X) (hg : glB sc "list" = true) (hbl : st.bl.contains "list" = true) (hx : plainE x = true) (ha : PE X x (tE X.K X.mg W e fa)) :
    PE X (.Call (.Name "list" q) [x] [] pos) (tF X.K X.mg W e fun S => (fa S).bind fun d S1 => Res.of ((dListOf d).map Ow.lst) S1) := by
  obtain ⟨g1, g2, g3⟩ := gl_of ok.sc hg
  exact (pe_callTy call_list_of g1 (ok.bl _ hbl) (by decide +kernel) (pa_cons ha pa_nil (star_cons hx)) g3 g2 (star_cons hx)).mono fun σ H Q h => tCF_of cf_list h

/-- list(x), x looked at alone -/
theorem d_listO (ok : CxOk st sc c e W X) {i : Nat} {v : Str} (hg : glB sc "list" = true) (hbl : st.bl.contains "list" = true) (hN : st.N[i]? = some v) (hv : visB sc v = true) :
    PE X (.Call (.Name "list" q) [.Name v p] [] pos) (tF X.K X.mg W e fun S => Res.of (((peek S i).bind dListOf).map Ow.lst) S) := by
  obtain ⟨g1, g2, g3⟩ := gl_of ok.sc hg
  refine (pe_callTy call_list_of g1 (ok.bl _ hbl) (by decide +kernel) (pa_cons (pe_nm ok hN hv) pa_nil (star_cons rfl)) g3 g2 (star_cons rfl)).mono fun σ H Q ⟨Z, S, s, h⟩ => ?_
  obtain ⟨o, ho, h2⟩ := Aft.of h
  cases k : peek S i with
  | none => rw [k] at ho; cases ho
  | some d =>
    rw [k] at ho
    obtain ⟨u, e1, e2⟩ := peek_list s k
    have fin : ∀ (ys : List V) (ds : List D), Rs X.K Z H ys ds → o = .lst ds → ∀ l, H l = none → Q (.ref l) (upd H l (.lst ys)) := fun ys ds rs eo l hl => by
      subst eo
      obtain ⟨g, rf⟩ := relF_new s hl rs
      exact h2 _ Z _ g.step (s.grow g) rf
    refine ⟨u, e1, ?_⟩
    have ho : (dListOf d).map Ow.lst = some o := ho
    rcases e2 with r1 | ⟨a, xs, ds, rfl, rfl, h5, h6⟩
    · unfold dListOf at ho
      split at ho
      · cases ho
        obtain ⟨a, xs, rfl, h1, s1⟩ := r1.lst_inv
        exact ⟨a, xs, rfl, .inl h1, fin xs _ s1 rfl⟩
      · cases ho
        obtain ⟨a, xs, rfl, h1, s1⟩ := r1.tup_inv
        exact ⟨a, xs, rfl, .inr h1, fin xs _ s1 rfl⟩
      · cases ho
    · cases ho
      exact ⟨a, xs, rfl, .inl (.inl (.inl h5)), fin xs ds h6 rfl⟩
/-! sorted -/
def rSortD (K : PySem.W.Frag) : List V → Hp → VK → Prop := fun vs H Q => ∃ Z d ds v, vs = [v] ∧ (∀ a, Z a → H a ≠ none) ∧ R K Z H v d ∧ dSorted d = some ds ∧ ∀ p xs, H p = none → Rs K Z H xs ds → Q (V.ref p) (upd H p (.lst xs))
theorem allAlike_of {xs : List D} (h : allAlike xs = true) : PySem.W.AllAlike xs := fun d hd d' hd' => List.all_eq_true.mp (List.all_eq_true.mp h d hd) d' hd'
theorem sortable_of {xs : List D} (h : sortable xs = true) : PySem.W.Sortable xs := by
  unfold sortable at h
  rw [Bool.or_eq_true] at h
  rcases h with h | h
  · left
    intro d hd
    have := List.all_eq_true.mp h d hd
    split at this
    · exact ⟨_, _, rfl⟩
    · cases this
  · right
    intro d hd
    have := List.all_eq_true.mp h d hd
    refine ⟨(fun e => by rw [e] at this; cases this), (fun xs e => by rw [e] at this; cases this)⟩
theorem depthAll_mem : ∀ {xs : List D} {d : D}, d ∈ xs → d.depth ≤ PyData.depthAll xs
  | y :: ys, d, h => by
    simp only [PyData.depthAll]
    rcases List.mem_cons.mp h with e | h
    · subst e; omega
    · have := depthAll_mem h; omega
theorem each_zip {K : PySem.W.Frag} {Z : Zn} {H : Hp} : ∀ {xs : List V} {ds : List D} {us : List Value}, Rs K Z H xs ds → Vals xs us → PySem.W.EachIs (fun (u : Value) (b : V × D) => RelV b.1 u ∧ R K Z H b.1 b.2) us (xs.zip ds)
  | _, _, _, .nil, .nil => .nil
  | _, _, _, .cons r1 t1, .cons r2 t2 => .cons ⟨r2, r1⟩ (each_zip t1 t2)
theorem each_unzip {K : PySem.W.Frag} {Z : Zn} {H : Hp} : ∀ {us : List Value} {bs : List (V × D)}, PySem.W.EachIs (fun (u : Value) (b : V × D) => RelV b.1 u ∧ R K Z H b.1 b.2) us bs → Vals (bs.map (·.1)) us ∧ Rs K Z H (bs.map (·.1)) (bs.map (·.2))
  | _, _, .nil => ⟨.nil, .nil⟩
  | _, _, .cons r t => by
    obtain ⟨h1, h2⟩ := each_unzip t
    exact ⟨.cons r.1 h1, .cons r.2 h2⟩
theorem zip_snd {α β : Type} : ∀ {xs : List α} {ds : List β}, xs.length = ds.length → (xs.zip ds).map (·.2) = ds
  | [], [], _ => rfl
  | x :: xs, d :: ds, h => by
    show d :: (xs.zip ds).map (·.2) = _
    rw [zip_snd (by simpa using h)]
  | [], _ :: _, h => by simp at h
  | _ :: _, [], h => by simp at h
theorem sort_key {pins : List (Addr × Obj)} {σ : L2.St} {H : Hp} {s : Shared} {Z : Zn} {ds : List D} (hu : X.A.units + 80 < cLine) (I : Inv X pins σ H s) : ∀ xs : List D, (if allAlike xs && sortable xs && decide (PyData.depthAll xs ≤ 60) then some (xs.mergeSort (PySem.W.dataLe false id)) else none) = some ds → ∀ (ys its : List V) (uss : List Value), Rs X.K Z H ys xs → Vals ys uss → uss.length ≤ sizeLine →
      PySem.W.EachIs (fun (v : Value) (b : V × D) => ∃ as, Reads s.heap v b.2 as) uss (ys.zip xs) ∧ PySem.W.EachIs (fun (u : Value) (b : V × D) => RelV b.1 u ∧ R X.K Z H b.1 b.2) uss (ys.zip xs) ∧ PySem.W.AllAlike ((ys.zip xs).map (·.2)) ∧ PySem.W.Sortable ((ys.zip xs).map (·.2)) ∧ (ys.zip xs).length ≤ sizeLine ∧
      (∀ b, b ∈ ys.zip xs → X.A.units + 2 + b.2.depth < cLine) ∧ ((ys.zip xs).mergeSort (PySem.W.dataLe false (·.2))).map (·.2) = ds ∧ ys.length ≤ sizeLine ∧ (ys.zip xs).length = ys.length := by
  intro xs hs ys _ uss rs rv hz
  split at hs
  case isFalse => cases hs
  rename_i hc
  simp only [Bool.and_eq_true, decide_eq_true_eq] at hc
  cases hs
  have hlen := rs.length
  have hvl := rv.length
  have e1 : (ys.zip xs).map (·.2) = xs := zip_snd hlen
  have each := each_zip rs rv
  refine ⟨each.mono fun u b hb => hb.2.rds I hb.1, each, ?_, ?_, ?_, ?_, ?_, by omega, by rw [List.length_zip]; omega⟩
  · rw [e1]; exact allAlike_of hc.1.1
  · rw [e1]; exact sortable_of hc.1.2
  · rw [List.length_zip]; omega
  · intro b hb
    have : b.2 ∈ xs := by rw [← e1]; exact List.mem_map_of_mem hb
    have := depthAll_mem this
    omega
  · have e3 := PySem.W.sort_maps (r := PySem.W.dataLe false (fun b : V × D => b.2)) (s := PySem.W.dataLe false id) (l := ys.zip xs) (fun b : V × D => b.2) (fun _ _ _ _ => rfl)
    rw [e1] at e3
    exact e3
theorem cr_sortD (hu : X.A.units + 80 < cLine) : CallR X (.builtin "sorted") (rSortD X.K) := by
  intro pins s σ H vs us Q I r h
  obtain ⟨Z, d, ds, v, rfl, zi, rd, hs, q⟩ := h
  have key := sort_key (Z := Z) (ds := ds) hu I
  unfold dSorted at hs
  split at hs
  case h_3 => cases hs
  · rename_i xs
    obtain ⟨a, ys, rfl, hl, rs⟩ := rd.lst_inv
    obtain ⟨its, rv, hp, hz⟩ := I.list hl
    rw [Vals.ref1 r]
    have hvl := rv.length
    obtain ⟨k1, k2, k3, k4, k5, k6, k7, k8, k9⟩ := key xs hs ys [] its rs rv (by omega)
    refine PySem.W.sorted_data (bs := ys.zip xs) (enc := (·.2)) (R := fun u b => RelV b.1 u ∧ R X.K Z H b.1 b.2) (vs := its) hp.isList k2 k1 k3 k4 k5 k6 ?_
    intro out ho eo
    obtain ⟨v1, r1⟩ := each_unzip eo
    rw [k7] at r1
    obtain ⟨c, hc2⟩ := PyProof.Rows.sortedAll_at s.heap its out.toArray
    have fr : H (s.heap.objs.size + 1) = none := I.hok.fresh (Nat.le_succ _)
    have J := I.laid (a := s.heap.objs.size + 1) (o := .lst (((ys.zip xs).mergeSort (PySem.W.dataLe false (·.2))).map (·.1))) (t' := s.toks) (h' := PyProof.Rows.sortedAll s.heap its out.toArray) (fun b u e => PyProof.Rows.sortedAll_old e) (Nat.le_succ _) ⟨by rw [List.length_map, List.length_mergeSort]; omega, out, c, v1, by rw [hc2]⟩
    exact ⟨V.ref _, _, J, rfl, q _ _ fr r1⟩
  · rename_i xs
    obtain ⟨a, ys, rfl, hl, rs⟩ := rd.tup_inv
    obtain ⟨its, rv, hp, hz⟩ := I.tuple hl
    rw [Vals.ref1 r]
    have hvl := rv.length
    obtain ⟨k1, k2, k3, k4, k5, k6, k7, k8, k9⟩ := key xs hs ys [] its rs rv (by omega)
    refine sorted_tup (bs := ys.zip xs) (enc := (·.2)) (R := fun u b => RelV b.1 u ∧ R X.K Z H b.1 b.2) (vs := its) hp k2 k1 k3 k4 k5 k6 ?_
    intro out h1 c h' ho eo kp1 kp hc2
    obtain ⟨v1, r1⟩ := each_unzip eo
    rw [k7] at r1
    have fr : H h1.objs.size = none := (I.kept (t' := s.toks) kp1).hok.fresh (Nat.le_refl _)
    have fs : s.heap.get? h1.objs.size = none := by
      cases e : s.heap.get? h1.objs.size with
      | none => rfl
      | some o => exact absurd (Heap.lt_size (kp1 _ _ e)) (Nat.lt_irrefl _)
    have J := I.laidN (a := h1.objs.size) (o := .lst (((ys.zip xs).mergeSort (PySem.W.dataLe false (·.2))).map (·.1))) (t' := s.toks) (h' := h') kp fs fr ⟨by rw [List.length_map, List.length_mergeSort]; omega, out, c, v1, by rw [hc2]⟩
    exact ⟨V.ref _, _, J, rfl, q _ _ fr r1⟩
/-- sorted(d) -/
def rSortDc (K : PySem.W.Frag) (w : World) : List V → Hp → VK → Prop := fun xs H Q => ∃ a Z kvs ds, xs = [V.ref a] ∧ DctSee K w Z H a kvs ∧ dSortDc (kvs.map (·.1)) = some ds ∧ ∀ p ys, H p = none → Rs K Z H ys ds → Q (V.ref p) (upd H p (.lst ys))
theorem each_enc {α β γ : Type} {R : α → γ → Prop} (enc : β → γ) : ∀ {as : List α} {bs : List β}, PySem.W.EachIs (fun a b => R a (enc b)) as bs → PySem.W.EachIs R as (bs.map enc)
  | _, _, .nil => .nil
  | _, _, .cons h t => .cons h (each_enc enc t)
theorem cr_sortDc (hc : X.calm = true) (hu : X.A.units + 80 < cLine) : CallR X (.builtin "sorted") (rSortDc X.K X.w) := by
  intro pins s σ H xs us Q I r h
  obtain ⟨a, Z, kvs, ds, rfl, hd, hs, q⟩ := h
  rw [Vals.ref1 r]
  obtain ⟨es, ep, hr, h1, h2, h3, h4⟩ := dct_raw I hd
  refine sorted_src (β := V × D) (enc := (·.2)) (R := fun u b => RelV b.1 u ∧ R X.K Z H b.1 b.2) (PySem.KdlSrc.rawDict (ep := ep) h3) (I.ok.hd hc) hr (by omega) fun vs hl hi => ?_
  obtain ⟨ys, r1, r2⟩ := pick_keys (K := X.K) (Z := Z) (H := H) (its := vs) (ds := kvs.map (·.1)) (by rw [hl, List.length_map]; omega) fun i hi1 hi' => by
    obtain ⟨hj, e2⟩ := hi i vs[i] (List.getElem?_eq_getElem hi1)
    have hk : i < kvs.length := by simpa using hi'
    obtain ⟨⟨v, b1, b2⟩, _⟩ := h4 i hj hk
    rw [e2]
    exact ⟨v, b1, by simpa using b2⟩
  have hlen := r2.length
  rw [List.length_map] at hlen
  have fin : ∀ {bs : List (V × D)} {ds' : List D}, (bs.mergeSort (PySem.W.dataLe false (·.2))).map (·.2) = ds → bs.length = ys.length → ∀ (out : List Value) (g1 : Heap) (c : Nat) (g' : Heap) (tk : Nat), out.length = es.size → PySem.W.EachIs (fun (u : Value) (b : V × D) => RelV b.1 u ∧ R X.K Z H b.1 b.2) out (bs.mergeSort (PySem.W.dataLe false (·.2))) → (∀ b o, s.heap.get? b = some o → g1.get? b = some o) → (∀ b o, s.heap.get? b = some o → g'.get? b = some o) → g'.get? g1.objs.size = some (PyProof.Rows.seqObj "list" out.toArray c) → EP X pins σ Q (.ref g1.objs.size) { s with heap := g', toks := tk } := fun {bs _} k7 bl out g1 c g' tk ho eo kp1 kp hc2 => by
    obtain ⟨v1, w1⟩ := each_unzip eo
    rw [k7] at w1
    have fr : H g1.objs.size = none := (I.kept (t' := s.toks) kp1).hok.fresh (Nat.le_refl _)
    have fs : s.heap.get? g1.objs.size = none := by
      cases e : s.heap.get? g1.objs.size with
      | none => rfl
      | some o => exact absurd (Heap.lt_size (kp1 _ _ e)) (Nat.lt_irrefl _)
    have J := I.laidN (a := g1.objs.size) (o := .lst ((bs.mergeSort (PySem.W.dataLe false (·.2))).map (·.1))) (t' := tk) (h' := g') kp fs fr ⟨by rw [List.length_map, List.length_mergeSort]; omega, out, c, v1, by rw [hc2]⟩
    exact ⟨V.ref _, _, J, rfl, q _ _ fr w1⟩
  have each := each_zip r2 r1
  have e1 : (ys.zip (kvs.map (·.1))).map (·.2) = kvs.map (·.1) := zip_snd (by rw [List.length_map]; exact hlen)
  have zl : (ys.zip (kvs.map (·.1))).length = ys.length := by rw [List.length_zip, List.length_map]; omega
  have rds : PySem.W.EachIs (fun (v : Value) (b : V × D) => ∃ as, Reads s.heap v b.2 as) vs (ys.zip (kvs.map (·.1))) := each.mono fun u b hb => hb.2.rds I hb.1
  unfold dSortDc at hs
  split at hs
  · rename_i ek
    cases hs
    have ez : (ys.zip (kvs.map (·.1))).map (·.2) = [.tuple []] := by rw [e1, ek]
    have l1 : ys.length = 1 := by rw [← zl, ← List.length_map (f := (·.2)), ez]; rfl
    refine ⟨ys.zip (kvs.map (·.1)), each, rds, ?_, fun h' tk kp => ?_, fin (ds' := []) ?_ zl⟩
    · rw [ez]
      intro d hd' d' hd''
      rw [List.mem_singleton.mp hd', List.mem_singleton.mp hd'']
      rfl
    · refine sorts_one (each_enc (R := fun v d => ∃ as, Reads h' v d as) (·.2) (rds.mono fun _ _ ⟨as, r⟩ => ⟨as, PyProof.Rows.Reads.keeps kp r⟩)) ?_ ?_ (by have := r1.length; omega) ?_
      · rw [ez]
        intro d hd' d' hd''
        rw [List.mem_singleton.mp hd', List.mem_singleton.mp hd'']
        rfl
      · rw [ez]
        intro d hd'
        exact ⟨[], List.mem_singleton.mp hd'⟩
      · rw [ez]
        intro d hd'
        rw [List.mem_singleton.mp hd']
        show X.A.units + 2 + 1 < cLine
        omega
    · have e3 := PySem.W.sort_maps (r := PySem.W.dataLe false (fun b : V × D => b.2)) (s := PySem.W.dataLe false id) (l := ys.zip (kvs.map (·.1))) (fun b : V × D => b.2) (fun _ _ _ _ => rfl)
      rw [ez] at e3
      exact e3.trans (by simp)
  · have hs' : (if allAlike (kvs.map (·.1)) && sortable (kvs.map (·.1)) && decide (PyData.depthAll (kvs.map (·.1)) ≤ 60) then some ((kvs.map (·.1)).mergeSort (PySem.W.dataLe false id)) else none) = some ds := hs
    obtain ⟨k1, k2, k3, k4, k5, k6, k7, k8, k9⟩ := sort_key hu I _ hs' ys [] vs r2 r1 (by omega)
    refine ⟨ys.zip (kvs.map (·.1)), k2, k1, k3, fun h' tk kp => ?_, fin (ds' := []) k7 zl⟩
    refine PySem.W.SortsAt.data (each_enc (R := fun v d => ∃ as, Reads h' v d as) (·.2) (k1.mono fun _ _ ⟨as, r⟩ => ⟨as, PyProof.Rows.Reads.keeps kp r⟩)) k3 k4 fun d hd' => ?_
    obtain ⟨b, hb, rfl⟩ := List.mem_map.mp hd'
    exact k6 b hb
theorem d_sortDc (ok : CxOk st sc c e W X) {i : Nat} {v : Str} (hg : glB sc "sorted" = true) (hbl : st.bl.contains "sorted" = true) (hN : st.N[i]? = some v) (hv : visB sc v = true) :
    PE X (.Call (.Name "sorted" q) [.Name v p] [] pos) (tF X.K X.mg W e fun S => Res.of (((dctAt S i).bind fun kvs => dSortDc (kvs.map (·.1))).map Ow.lst) S) := by
  obtain ⟨g1, g2, g3⟩ := gl_of ok.sc hg
  refine (pe_callB (cr_sortDc ok.calm ok.units) g1 (ok.bl _ hbl) (by decide +kernel) (pa_cons (pe_nm ok hN hv) pa_nil (star_cons rfl)) g3 g2 (star_cons rfl)).mono fun σ H Q ⟨Z, S, s, h⟩ => ?_
  obtain ⟨o, ho, h2⟩ := Aft.of h
  cases k : dctAt S i with
  | none => rw [k] at ho; cases ho
  | some kvs =>
    rw [k, Option.bind_some] at ho
    cases ks : dSortDc (kvs.map (·.1)) with
    | none => rw [ks] at ho; cases ho
    | some ds =>
      rw [ks] at ho
      cases ho
      obtain ⟨_, w, e1, _, da⟩ := dct_own ok s k
      refine ⟨V.ref w, e1, w, Z, kvs, ds, rfl, da, ks, fun l ys hl rs => ?_⟩
      obtain ⟨g, rf⟩ := relF_new s hl rs
      exact h2 _ Z _ g.step (s.grow g) rf
theorem d_sort (ok : CxOk st sc c e W X) (hg : glB sc "sorted" = true) (hbl : st.bl.contains "sorted" = true) (hx : plainE x = true) (ha : PE X x (tE X.K X.mg W e fa)) :
    PE X (.Call (.Name "sorted" q) [x] [] pos) (tF X.K X.mg W e fun S => (fa S).bind fun d S1 => Res.of ((dSorted d).map Ow.lst) S1) := by
  obtain ⟨g1, g2, g3⟩ := gl_of ok.sc hg
  refine (pe_callB (cr_sortD ok.units) g1 (ok.bl _ hbl) (by decide +kernel) (pa_cons ha pa_nil (star_cons hx)) g3 g2 (star_cons hx)).mono fun σ H Q h => tCF_of (fun Z H v d ds Q zi r hd hq => ?_) h
  exact ⟨Z, d, ds, v, rfl, zi, r, hd, fun p xs hp rs => hq p xs _ (fun a o h => by rw [upd_ne (ne_of_none h hp)]; exact h) hp upd_same (fun _ _ _ _ => trivial) (Rs.step ⟨fun _ h => h, fun a o _ h => by rw [upd_ne (ne_of_none h hp)]; exact h⟩ rs)⟩

/-! a def that hands back a list of the caller's own -/
theorem pe_absurdF {x : Expr} {f : Sto → Res Ow} (h : ∀ S, f S = .bad) : PE X x (tF X.K X.mg W e f) := ⟨fun pins s σ H Q I ⟨Z, S, sr, q⟩ => by rw [h S] at q; exact q.elim⟩
theorem d_callF (ok : CxOk st sc c e W X) {f : Str} (hg : glB sc f = true) (hf : st.fns.lookup f = some .fr) (hmt : (st.mts.lookup f).isNone = true) (hx : plainE x = true) (hpl : (backTo pos (starEach es X.env)).any (·.1) = false) (ha : PA X (x :: es) (tA X.K X.mg W e fs)) :
    PE X (.Call (.Name f q) (x :: es) [] pos) (tF X.K X.mg W e fun S => if c.run.isEmpty then .bad else (fs S).bind fun ds S1 => callFR c f ds S1) := by
  obtain ⟨g1, g2, g3⟩ := gl_of ok.sc hg
  have fns := ok.fns
  have room := ok.room
  cases hr : c.run with
  | nil => exact pe_absurdF fun S => rfl
  | cons r rs =>
    rw [hr] at fns room
    obtain ⟨fa, fd, ps, mat, m3, F, ar⟩ := (fns.head hf).ex
    obtain ⟨m1, m2⟩ := fat_name hmt mat
    refine (pe_callS (E := WE W) F room g1 m1 m2 m3 ok.lx.pass ha g2 (star_cons hx) hpl).mono fun σ H Q ⟨Z, S, s, h⟩ => ?_
    refine ⟨Z, S, s, (Aft.bind (Rel := RelDs X.K) h).mono fun vs H1 ⟨Z1, ds, S1, _, st1, s1, r1, h1⟩ => ?_⟩
    unfold callFR at h1
    rw [hr] at h1
    dsimp only at h1
    have nb : r f none ds ≠ .bad := fun z => by rw [z] at h1; exact h1.elim
    refine ⟨by rw [r1.length]; exact ar none ds nb, Z1, s1.zi, fun a t => ⟨s1.tb a t, s1.tz a t⟩, ds, r1, ?_⟩
    have sc' : ∀ {Z' : Zn} {H' : Hp}, Chg e.T (fun _ => False) Z1 H1 Z' H' → SR X.K e Z' H' σ S1 := fun {Z' H'} g => s1.chg g (fun _ h => h.elim) (fun _ h => h.elim) fun _ h => h.elim
    cases q : r f none ds with
    | bad => exact nb q
    | ok d io => rw [q] at h1; exact h1.elim
    | okT _ _ _ => rw [q] at h1; exact h1.elim
    | exc xx => rw [q] at h1; exact fun cls dd Z' H' g rx => h1 cls dd Z' H' g.step (sc' g) rx
    | okF o =>
      rw [q] at h1
      intro p Z' H' g nz ow hp
      refine h1 _ Z' H' g.step (sc' g) ⟨p, rfl, nz, ow, s1.new hp, fun j o' hj => s1.newO hp j o' hj, s1.newP hp⟩

/-! a def that hands back two data and an object of the caller's own -/
theorem pe_absurdT {x : Expr} {f : Sto → Res (D × D × Ow)} (h : ∀ S, f S = .bad) : PE X x (tT X.K X.mg W e f) := ⟨fun pins s σ H Q I ⟨Z, S, sr, q⟩ => by rw [h S] at q; exact q.elim⟩
theorem d_callT (ok : CxOk st sc c e W X) {f : Str} (hg : glB sc f = true) (hf : st.fns.lookup f = some .tr) (hmt : (st.mts.lookup f).isNone = true) (hx : plainE x = true) (hpl : (backTo pos (starEach es X.env)).any (·.1) = false) (ha : PA X (x :: es) (tA X.K X.mg W e fs)) :
    PE X (.Call (.Name f q) (x :: es) [] pos) (tT X.K X.mg W e fun S => if c.run.isEmpty then .bad else (fs S).bind fun ds S1 => callTR c f ds S1) := by
  obtain ⟨g1, g2, g3⟩ := gl_of ok.sc hg
  have fns := ok.fns
  have room := ok.room
  cases hr : c.run with
  | nil => exact pe_absurdT fun S => rfl
  | cons r rs =>
    rw [hr] at fns room
    obtain ⟨fa, fd, ps, mat, m3, F, ar⟩ := (fns.head hf).ex
    obtain ⟨m1, m2⟩ := fat_name hmt mat
    refine (pe_callS (E := WE W) F room g1 m1 m2 m3 ok.lx.pass ha g2 (star_cons hx) hpl).mono fun σ H Q ⟨Z, S, s, h⟩ => ?_
    refine ⟨Z, S, s, (Aft.bind (Rel := RelDs X.K) h).mono fun vs H1 ⟨Z1, ds, S1, _, st1, s1, r1, h1⟩ => ?_⟩
    unfold callTR at h1
    rw [hr] at h1
    dsimp only at h1
    have nb : r f none ds ≠ .bad := fun z => by rw [z] at h1; exact h1.elim
    refine ⟨by rw [r1.length]; exact ar none ds nb, Z1, s1.zi, fun a t => ⟨s1.tb a t, s1.tz a t⟩, ds, r1, ?_⟩
    have sc' : ∀ {Z' : Zn} {H' : Hp}, Chg e.T (fun _ => False) Z1 H1 Z' H' → SR X.K e Z' H' σ S1 := fun {Z' H'} g => s1.chg g (fun _ h => h.elim) (fun _ h => h.elim) fun _ h => h.elim
    cases hq : r f none ds with
    | bad => exact nb hq
    | ok d io => rw [hq] at h1; exact h1.elim
    | okF o => rw [hq] at h1; exact h1.elim
    | exc xx => rw [hq] at h1; exact fun cls dd Z' H' g rx => h1 cls dd Z' H' g.step (sc' g) rx
    | okT a b o =>
      rw [hq] at h1
      intro v p q u1 u2 Z' H' g t
      exact h1 v Z' H' g.step (sc' g) ⟨p, q, u1, u2, ⟨t.v, t.p, t.a, t.b, t.nz, t.ow, s1.new t.eh⟩, fun j o' hj => s1.newO t.eh j o' hj, s1.newP t.eh⟩

/-! ### what is walked -/
/-- J yields the data ds while the zone stands -/
structure Wk (K : PySem.W.Frag) (J : It) (Z : Zn) (H : Hp) (ds : List D) : Prop where
  go : ∀ i Z' H', Step Z H Z' H' → i < ds.length → J.go i H'
  stop : ∀ Z' H', Step Z H Z' H' → J.stop ds.length H'
  yld : ∀ i Z' H' x H'', Step Z H Z' H' → (∀ a, Z' a → H' a ≠ none) → i < ds.length → J.yld i H' x H'' → ∃ d Z'', ds[i]? = some d ∧ Grow Z' H' Z'' H'' ∧ R K Z'' H'' x d
abbrev RelW (K : PySem.W.Frag) : Zn → Hp → Sto → It → List D → Prop := fun Z H _ J ds => Wk K J Z H ds
def tI (K : PySem.W.Frag) (mg : Str → Option Value) (W : WX) (e : Ent) (f : Sto → Res (List D)) : TI := fun σ H Q => ∃ Z S, SR K e Z H σ S ∧ Aft K mg W e Z H σ (f S) (RelW K) Q
theorem PI.mono {tg x : Expr} {t t' : TI} (h : PI X tg x t) (m : ∀ σ H Q, t' σ H Q → t σ H Q) : PI X tg x t' := ⟨fun pins s σ H Q I hw => h.run pins s σ H Q I (m σ H Q hw)⟩
theorem wk_list {Z : Zn} {H : Hp} {a : Addr} {xs : List V} {ds : List D} (hs : ∀ Z' H', Step Z H Z' H' → SqL X.K H' a xs) (r : Rs X.K Z H xs ds) : Wk X.K (Itl X.K a) Z H ds where
  go := fun i Z' H' s hi => ⟨xs, xs[i]'(by rw [r.length]; exact hi), hs Z' H' s, by simp⟩
  stop := fun Z' H' s => ⟨xs, hs Z' H' s, by rw [r.length]; exact Nat.le_refl _⟩
  yld := fun i Z' H' x H'' s zi hi y => by
    obtain ⟨e, y⟩ := y
    subst e
    obtain ⟨d, h1, h2⟩ := Pd.getl (Rs.step s r) (y xs (hs Z' _ s))
    exact ⟨d, Z', h1, .refl zi, h2⟩
theorem wk_tup {Z : Zn} {H : Hp} {a : Addr} {xs : List V} {ds : List D} (hs : ∀ Z' H', Step Z H Z' H' → SqT X.K H' a xs) (r : Rs X.K Z H xs ds) : Wk X.K (Itt X.K a) Z H ds where
  go := fun i Z' H' s hi => ⟨xs, xs[i]'(by rw [r.length]; exact hi), hs Z' H' s, by simp⟩
  stop := fun Z' H' s => ⟨xs, hs Z' H' s, by rw [r.length]; exact Nat.le_refl _⟩
  yld := fun i Z' H' x H'' s zi hi y => by
    obtain ⟨e, y⟩ := y
    subst e
    obtain ⟨d, h1, h2⟩ := Pd.getl (Rs.step s r) (y xs (hs Z' _ s))
    exact ⟨d, Z', h1, .refl zi, h2⟩
theorem wk_rng {Z : Zn} {H : Hp} {lo : Int} {n : Nat} : Wk X.K (Itr lo n) Z H (rng lo n) where
  go := fun i Z' H' s hi => by simpa [rng, Itr] using hi
  stop := fun Z' H' s => by simp [rng, Itr]
  yld := fun i Z' H' x H'' s zi hi y => by
    obtain ⟨e, y⟩ := y
    subst e y
    have hi' : i < n := by simpa [rng] using hi
    exact ⟨.int (lo + i), Z', by unfold rng; rw [List.getElem?_map, List.getElem?_range hi']; rfl, .refl zi, .int _⟩
theorem wk_str {Z : Zn} {H : Hp} {z : Str} : Wk X.K (Its z) Z H (z.cps.toList.map fun c => .str ⟨#[c]⟩) where
  go := fun i Z' H' s hi => by
    show i < z.cps.size
    simpa using hi
  stop := fun Z' H' s => by
    show z.cps.size ≤ _
    simp
  yld := fun i Z' H' x H'' s zi hi y => by
    obtain ⟨rfl, c, hc, rfl⟩ := y
    refine ⟨.str ⟨#[c]⟩, Z', ?_, .refl zi, .str _⟩
    rw [List.getElem?_map, Array.getElem?_toList, hc]
    rfl
theorem di_seq {tg : Expr} (ha : PE X a (tE X.K X.mg W e fa)) : PI X tg a (tI X.K X.mg W e fun S => (fa S).bind fun d S1 => Res.of (dIter d) S1) := by
  refine ⟨fun pins s σ H Q I ⟨Z, S, s0, h⟩ => ?_⟩
  have ab := Aft.bind (Rel := RelD X.K) h
  by_cases ht : ∃ ds S1, fa S = .ok (.tuple ds) S1
  · obtain ⟨ds, S1, ht⟩ := ht
    refine (pi_tup ha).run pins s σ H Q I ⟨Z, S, s0, ab.mono fun v H1 ⟨Z1, d, S2, q, st1, s1, r1, h1⟩ => ?_⟩
    rw [ht] at q
    cases q
    obtain ⟨ys, hd, h2⟩ := Aft.of h1
    cases hd
    obtain ⟨p, xs, rfl, rs, hs⟩ := r1.tup_stay
    exact ⟨p, rfl, ⟨xs, hs _ _ .refl⟩, h2 _ Z1 H1 .refl s1 (wk_tup hs rs)⟩
  · by_cases hz : ∃ z S1, fa S = .ok (.str z) S1
    · obtain ⟨z, S1, hz⟩ := hz
      refine (pi_str ha).run pins s σ H Q I ⟨Z, S, s0, ab.mono fun v H1 ⟨Z1, d, S2, q, st1, s1, r1, h1⟩ => ?_⟩
      rw [hz] at q
      cases q
      obtain ⟨ys, hd, h2⟩ := Aft.of h1
      cases hd
      exact ⟨z, r1.str_inv, h2 _ Z1 H1 .refl s1 wk_str⟩
    · refine (pi_list ha).run pins s σ H Q I ⟨Z, S, s0, ab.mono fun v H1 ⟨Z1, d, S2, q, st1, s1, r1, h1⟩ => ?_⟩
      obtain ⟨ys, hd, h2⟩ := Aft.of h1
      cases d with
      | list zs =>
        cases hd
        obtain ⟨p, xs, rfl, rs, hs⟩ := r1.lst_stay
        exact ⟨p, rfl, ⟨xs, hs _ _ .refl⟩, h2 _ Z1 H1 .refl s1 (wk_list hs rs)⟩
      | tuple zs => exact absurd ⟨zs, S2, q⟩ ht
      | str z => exact absurd ⟨z, S2, q⟩ hz
      | _ => cases hd
theorem range62_of {i : Int} (h : range62 i = true) : -(2 ^ 62) ≤ i ∧ i < 2 ^ 62 := of_decide_eq_true h
theorem di_rng1 (ok : CxOk st sc c e W X) {tg : Expr} (hg : glB sc "range" = true) (hbl : st.bl.contains "range" = true) (hx : plainE a = true) (ha : PE X a (tE X.K X.mg W e fa)) :
    PI X tg (.Call (.Name "range" q) [a] [] pos) (tI X.K X.mg W e fun S => (fa S).bind fun d S1 => (Res.of (asInt d) S1).bind fun j S2 => if range62 j then .ok (rng 0 j.toNat) S2 else .bad) := by
  obtain ⟨g1, g2, g3⟩ := gl_of ok.sc hg
  refine PI.mono (pi_range1 g1 (ok.bl _ hbl) (pa_cons ha pa_nil (star_cons hx)) (star_cons hx)) fun σ H Q ⟨Z, S, s, h⟩ => ?_
  refine ⟨Z, S, s, (Aft.bind (Rel := RelD X.K) h).mono fun v1 H1 ⟨Z1, d, S1, _, st1, s1, r1, h1⟩ => ?_⟩
  cases q : asInt d with
  | none => rw [q] at h1; exact h1.elim
  | some j =>
    rw [q] at h1
    rw [asInt_some q] at r1
    have h1 : Aft X.K X.mg W e Z1 H1 σ (if range62 j then .ok (rng 0 j.toNat) S1 else .bad) (RelW X.K) Q := h1
    split at h1
    · rename_i hj
      obtain ⟨j1, j2⟩ := range62_of hj
      exact ⟨j, by rw [r1.int_inv], j1, j2, h1 _ Z1 H1 .refl s1 wk_rng⟩
    · exact h1.elim
theorem di_rng2 (ok : CxOk st sc c e W X) {tg : Expr} (hg : glB sc "range" = true) (hbl : st.bl.contains "range" = true) (hx : plainE a = true) (hy : plainE b = true) (ha : PE X a (tE X.K X.mg W e fa)) (hb : PE X b (tE X.K X.mg W e fb)) :
    PI X tg (.Call (.Name "range" q) [a, b] [] pos) (tI X.K X.mg W e fun S => (fa S).bind fun d S1 => (fb S1).bind fun d' S2 => (Res.of (asInt d) S2).bind fun i S3 => (Res.of (asInt d') S3).bind fun j S4 => if range62 i && range62 j then .ok (rng i (j - i).toNat) S4 else .bad) := by
  obtain ⟨g1, g2, g3⟩ := gl_of ok.sc hg
  refine PI.mono (pi_range2 g1 (ok.bl _ hbl) (pa_cons ha (pa_cons hb pa_nil (star_cons hy)) (star_cons hx)) (by rw [star_cons hx, star_cons hy]; rfl) (star_cons hy)) fun σ H Q ⟨Z, S, s, h⟩ => ?_
  refine ⟨Z, S, s, (Aft.bind (Rel := RelD X.K) h).mono fun v1 H1 ⟨Z1, d, S1, _, st1, s1, r1, h1⟩ => ⟨Z1, S1, s1, (Aft.bind (Rel := RelD X.K) h1).mono fun v2 H2 ⟨Z2, d', S2, _, st2, s2, r2, h2⟩ => ?_⟩⟩
  have r1 := R.step st2 r1
  cases q1 : asInt d with
  | none => rw [q1] at h2; exact h2.elim
  | some i =>
    cases q2 : asInt d' with
    | none => rw [q1, q2] at h2; exact h2.elim
    | some j =>
      rw [q1, q2] at h2
      rw [asInt_some q1] at r1
      rw [asInt_some q2] at r2
      have h2 : Aft X.K X.mg W e Z2 H2 σ (if range62 i && range62 j then .ok (rng i (j - i).toNat) S2 else .bad) (RelW X.K) Q := h2
      split at h2
      · rename_i hj
        rw [Bool.and_eq_true] at hj
        obtain ⟨i1, i2⟩ := range62_of hj.1
        obtain ⟨j1, j2⟩ := range62_of hj.2
        exact ⟨i, j, by rw [r1.int_inv, r2.int_inv], ⟨i1, i2, j1, j2⟩, h2 _ Z2 H2 .refl s2 wk_rng⟩
      · exact h2.elim
theorem zip_get {α β : Type} {xs : List α} {ys : List β} {i : Nat} {p : α × β} (h : (xs.zip ys)[i]? = some p) : xs[i]? = some p.1 ∧ ys[i]? = some p.2 := by
  rw [List.getElem?_zip_eq_some] at h
  exact h
theorem wk_zipL {Z : Zn} {H : Hp} {a b : Addr} {xs ys : List V} {ds es : List D} (hs : ∀ Z' H', Step Z H Z' H' → SqL X.K H' a xs) (ht : ∀ Z' H', Step Z H Z' H' → SqL X.K H' b ys) (r : Rs X.K Z H xs ds) (r' : Rs X.K Z H ys es) :
    Wk X.K (Itz X.K a b) Z H ((ds.zip es).map fun p => .tuple [p.1, p.2]) where
  go := fun i Z' H' s hi => by
    have h1 : i < ds.length ∧ i < es.length := by simpa [Nat.lt_min] using hi
    exact ⟨xs, ys, xs[i]'(by rw [r.length]; exact h1.1), ys[i]'(by rw [r'.length]; exact h1.2), hs Z' H' s, ht Z' H' s, by simp, by simp⟩
  stop := fun Z' H' s => ⟨xs, ys, hs Z' H' s, ht Z' H' s, by rw [r.length, r'.length]; simp; omega⟩
  yld := fun i Z' H' x H'' s zi hi y => by
    obtain ⟨T, u, v, rfl, hT, rfl, y1, y2⟩ := y
    obtain ⟨d, h1, h2⟩ := Pd.getl (Rs.step s r) (y1 xs (hs Z' _ s))
    obtain ⟨e, k1, k2⟩ := Pd.getl (Rs.step s r') (y2 ys (ht Z' _ s))
    have g := Grow.new (o := .tup [u, v]) zi hT
    refine ⟨.tuple [d, e], Z'.put T, ?_, g, .tup Zn.put_self upd_same (.cons (R.step g.step h2) (.cons (R.step g.step k2) .nil))⟩
    rw [List.getElem?_map, List.getElem?_zip_eq_some (z := (d, e)).mpr ⟨h1, k1⟩]
    rfl
theorem wk_zipT {Z : Zn} {H : Hp} {a b : Addr} {xs ys : List V} {ds es : List D} (hs : ∀ Z' H', Step Z H Z' H' → SqT X.K H' a xs) (ht : ∀ Z' H', Step Z H Z' H' → SqT X.K H' b ys) (r : Rs X.K Z H xs ds) (r' : Rs X.K Z H ys es) :
    Wk X.K (RZ.ItzT X.K a b) Z H ((ds.zip es).map fun p => .tuple [p.1, p.2]) where
  go := fun i Z' H' s hi => by
    have h1 : i < ds.length ∧ i < es.length := by simpa [Nat.lt_min] using hi
    exact ⟨xs, ys, xs[i]'(by rw [r.length]; exact h1.1), ys[i]'(by rw [r'.length]; exact h1.2), hs Z' H' s, ht Z' H' s, by simp, by simp⟩
  stop := fun Z' H' s => ⟨xs, ys, hs Z' H' s, ht Z' H' s, by rw [r.length, r'.length]; simp; omega⟩
  yld := fun i Z' H' x H'' s zi hi y => by
    obtain ⟨T, u, v, rfl, hT, rfl, y1, y2⟩ := y
    obtain ⟨d, h1, h2⟩ := Pd.getl (Rs.step s r) (y1 xs (hs Z' _ s))
    obtain ⟨e, k1, k2⟩ := Pd.getl (Rs.step s r') (y2 ys (ht Z' _ s))
    have g := Grow.new (o := .tup [u, v]) zi hT
    refine ⟨.tuple [d, e], Z'.put T, ?_, g, .tup Zn.put_self upd_same (.cons (R.step g.step h2) (.cons (R.step g.step k2) .nil))⟩
    rw [List.getElem?_map, List.getElem?_zip_eq_some (z := (d, e)).mpr ⟨h1, k1⟩]
    rfl
theorem di_zip (ok : CxOk st sc c e W X) {elts : List Expr} {kk : Nat} {tp : Pos} (hg : glB sc "zip" = true) (hbl : st.bl.contains "zip" = true) (hx : plainE a = true) (hy : plainE b = true) (ha : PE X a (tE X.K X.mg W e fa)) (hb : PE X b (tE X.K X.mg W e fb)) :
    PI X (.Tuple elts kk tp) (.Call (.Name "zip" q) [a, b] [] pos) (tI X.K X.mg W e fun S => (fa S).bind fun d S1 => (fb S1).bind fun d' S2 => Res.of (dZip d d') S2) := by
  obtain ⟨g1, g2, g3⟩ := gl_of ok.sc hg
  refine PI.mono (RZ.pi_zipA g1 (ok.bl _ hbl) (pa_cons ha (pa_cons hb pa_nil (star_cons hy)) (star_cons hx)) (by rw [star_cons hx, star_cons hy]) (by rw [star_cons hy]; rfl)) fun σ H Q ⟨Z, S, s, h⟩ => ?_
  refine ⟨Z, S, s, (Aft.bind (Rel := RelD X.K) h).mono fun v1 H1 ⟨Z1, d, S1, _, st1, s1, r1, h1⟩ => ⟨Z1, S1, s1, (Aft.bind (Rel := RelD X.K) h1).mono fun v2 H2 ⟨Z2, d', S2, _, st2, s2, r2, h2⟩ => ?_⟩⟩
  have r1 := R.step st2 r1
  obtain ⟨ds, hd, h3⟩ := Aft.of h2
  unfold dZip at hd
  split at hd
  · cases hd
    obtain ⟨p, xs, rfl, t1, k1⟩ := r1.lst_stay
    obtain ⟨p', ys, rfl, t2, k2⟩ := r2.lst_stay
    exact ⟨p, p', xs, ys, rfl, .inl ⟨k1 _ _ .refl, k2 _ _ .refl, h3 _ Z2 H2 .refl s2 (wk_zipL k1 k2 t1 t2)⟩⟩
  · cases hd
    obtain ⟨p, xs, rfl, t1, k1⟩ := r1.tup_stay
    obtain ⟨p', ys, rfl, t2, k2⟩ := r2.tup_stay
    exact ⟨p, p', xs, ys, rfl, .inr ⟨k1 _ _ .refl, k2 _ _ .refl, h3 _ Z2 H2 .refl s2 (wk_zipT k1 k2 t1 t2)⟩⟩
  · cases hd
/-! ### targets -/
def Out (slots : List Nat) (σ σ' : L2.St) : Prop := σ'.length = σ.length ∧ ∀ j, j ∉ slots → σ'[j]? = σ[j]?
def tGt (K : PySem.W.Frag) (e : Ent) (slots : List Nat) (bnd : D → Sto → Option Sto) : TG := fun v σ H Q => ∃ Z S d S', SR K e Z H σ S ∧ R K Z H v d ∧ bnd d S = some S' ∧ ∀ σ', SR K e Z H σ' S' → Out slots σ σ' → Q σ' H
theorem PG.mono {tg : Expr} {t t' : TG} (h : PG X tg t) (m : ∀ v σ H Q, t' v σ H Q → t v σ H Q) : PG X tg t' := ⟨fun pins s σ H v u Q I r hw => h.run pins s σ H v u Q I r (m v σ H Q hw)⟩
theorem asg_of {raw : Scope} {x : Str} (hs : X.env.scope = sc) (hr : ∀ y, raw.names.lookup y = some .cell → X.fn y = true) (h : asgB sc raw x = true) : Loc X.env.scope x ∧ (X.fn x = true ∨ X.env.scope.names.lookup x = some .local) := by
  rw [hs]
  unfold asgB at h
  split at h
  · rename_i q; exact ⟨.inl q, .inr q⟩
  · rename_i q
    refine ⟨.inr q, .inl ?_⟩
    split at h
    · exact hr x (by assumption)
    · cases h
  · cases h
theorem mi_of (ok : CxOk st sc c e W X) {i : Nat} (h : (c.io && i == 0) = false) : ∀ a, e.M a → i ≠ 0 := fun a ma z => by
  cases q : c.io with
  | false => exact ok.io q a ma
  | true => rw [q, z] at h; cases h
theorem out_set {σ : L2.St} {i : Nat} {v : Option V} : Out [i] σ (σ.set i v) := ⟨by simp, fun j hj => List.getElem?_set_ne (fun e => hj (by simp [e]))⟩
theorem dg_name (ok : CxOk st sc c e W X) {raw : Scope} (hr : ∀ y, raw.names.lookup y = some .cell → X.fn y = true) {i : Nat} {x : Str} (hN : st.N[i]? = some x) (hx : asgB sc raw x = true) : PG X (.Name x p) (tGt X.K e [i] (bindG c (.name i))) := by
  obtain ⟨h1, h2⟩ := asg_of ok.sc hr hx
  refine PG.mono (pg_name ok.nd (by rw [ok.N]; exact hN) h1 h2) fun v σ H Q ⟨Z, S, d, S', s, r, hb, q⟩ => ?_
  unfold bindG at hb
  dsimp only at hb
  split at hb
  · cases hb
  · rename_i hio
    cases hb
    exact q _ (s.setF r (mi_of ok (by simpa using hio))) out_set
def tGs (K : PySem.W.Frag) (e : Ent) (is : List Nat) : TGs := fun vs σ H Q => ∃ Z S ds S', SR K e Z H σ S ∧ Rs K Z H vs ds ∧ setFro S is ds = some S' ∧ (∀ a, e.M a → 0 ∉ is) ∧ ∀ σ', SR K e Z H σ' S' → Out is σ σ' → Q σ' H
theorem PGs.mono {ts : List Expr} {t t' : TGs} (h : PGs X ts t) (m : ∀ v σ H Q, t' v σ H Q → t v σ H Q) : PGs X ts t' := ⟨fun pins s σ H v u Q I r hw => h.run pins s σ H v u Q I r (m v σ H Q hw)⟩
theorem assignEach_names {N : List Str} {raw : Scope} {env : Env} : ∀ {is : List Nat} {ts : List Expr}, chkNames N sc raw is ts = true → assignEach ts env = ts.map (fun t => (false, assign t env)) ∧ ts.length = is.length
  | [], [], _ => ⟨rfl, rfl⟩
  | i :: is, t :: ts, h => by
    simp only [chkNames, Bool.and_eq_true] at h
    obtain ⟨h1, h2⟩ := assignEach_names (env := env) h.2
    cases t with
    | Name x pos => exact ⟨by show (false, assign _ env) :: assignEach ts env = _; rw [h1]; rfl, by simp [h2]⟩
    | _ => exact absurd h.1 (by simp)
  | [], _ :: _, h => by simp [chkNames] at h
  | _ :: _, [], h => by simp [chkNames] at h
theorem dg_names (ok : CxOk st sc c e W X) {raw : Scope} (hr : ∀ y, raw.names.lookup y = some .cell → X.fn y = true) : ∀ {is : List Nat} {ts : List Expr}, chkNames st.N sc raw is ts = true → PGs X ts (tGs X.K e is)
  | [], [], _ => PGs.mono pgs_nil fun vs σ H Q ⟨Z, S, ds, S', s, r, hb, hm, q⟩ => by
    cases ds with
    | nil =>
      cases r
      cases hb
      exact ⟨rfl, q σ s ⟨rfl, fun _ _ => rfl⟩⟩
    | cons d ds => cases hb
  | i :: is, t :: ts, h => by
    have hh := h
    simp only [chkNames, Bool.and_eq_true] at h
    cases t with
    | Name x pos =>
      have h1 := h.1
      dsimp only at h1
      rw [Bool.and_eq_true] at h1
      obtain ⟨a1, a2⟩ := asg_of ok.sc hr h1.2
      have g1 := pg_name (X := X) (pos := pos) (i := i) ok.nd (by rw [ok.N]; exact of_decide_eq_true h1.1) a1 a2
      refine PGs.mono (pgs_cons g1 (dg_names ok hr h.2) (by rw [(assignEach_names (sc := sc) (raw := raw) (N := st.N) hh).1, (assignEach_names (sc := sc) (raw := raw) (N := st.N) h.2).1]; rfl)) fun vs σ H Q ⟨Z, S, ds, S', s, r, hb, hm, q⟩ => ?_
      cases ds with
      | nil => cases hb
      | cons d ds =>
        cases r with
        | cons r1 r2 =>
          have hb : setFro (S.set i (.fro d)) is ds = some S' := hb
          refine ⟨_, _, rfl, Z, _, ds, S', s.setF r1 (fun a ma z => hm a ma (by simp [z])), r2, hb, fun a ma z => hm a ma (by simp [z]), fun σ' s' o => q σ' s' ?_⟩
          refine ⟨by rw [o.1]; simp, fun j hj => ?_⟩
          have n1 : j ∉ is := fun z => hj (by simp [z])
          have n2 : i ≠ j := fun z => hj (by simp [z])
          rw [o.2 j n1, List.getElem?_set_ne n2]
    | _ => exact absurd h.1 (by simp)
  | [], _ :: _, h => by simp [chkNames] at h
  | _ :: _, [], h => by simp [chkNames] at h
theorem dg_tup (ok : CxOk st sc c e W X) {raw : Scope} (hr : ∀ y, raw.names.lookup y = some .cell → X.fn y = true) {is : List Nat} {ts : List Expr} {k : Nat} (h : chkNames st.N sc raw is ts = true) : PG X (.Tuple ts k p) (tGt X.K e is (bindG c (.tup is))) := by
  obtain ⟨h1, h2⟩ := assignEach_names (env := X.env) h
  refine PG.mono (pg_tup (n := is.length) ok.calm (dg_names ok hr h) (by rw [h1]; simp [h2]) (by rw [h1, List.findIdx?_eq_none_iff]; intro y hy; obtain ⟨t, _, rfl⟩ := List.mem_map.mp hy; rfl)) fun v σ H Q ⟨Z, S, d, S', s, r, hb, q⟩ => ?_
  unfold bindG at hb
  dsimp only at hb
  split at hb
  · cases hb
  · rename_i hio
    split at hb
    · split at hb
      · rename_i ds hl
        obtain ⟨a, xs, rfl, ht, rs⟩ := r.tup_inv
        refine ⟨a, xs, rfl, ht, by rw [rs.length]; exact hl, Z, S, _, S', s, rs, hb, fun b mb z => ?_, q⟩
        cases q2 : c.io with
        | false => exact ok.io q2 b mb
        | true => rw [q2] at hio; exact hio (by simpa using z)
      · cases hb
    · cases hb
theorem dg_nst (ok : CxOk st sc c e W X) {raw : Scope} (hr : ∀ y, raw.names.lookup y = some .cell → X.fn y = true) {i : Nat} {is : List Nat} {x : Str} {ts : List Expr} {k k2 : Nat} {p1 p2 : Pos} (hN : st.N[i]? = some x) (hx : asgB sc raw x = true) (h : chkNames st.N sc raw is ts = true) :
    PG X (.Tuple [.Name x p1, .Tuple ts k2 p2] k p) (tGt X.K e (i :: is) (bindG c (.nst i is))) := by
  obtain ⟨a1, a2⟩ := asg_of ok.sc hr hx
  have g1 := pg_name (X := X) (pos := p1) (i := i) ok.nd (by rw [ok.N]; exact hN) a1 a2
  have g2 := dg_tup (k := k2) (p := p2) ok hr h
  refine PG.mono (pg_tup (n := 2) ok.calm (pgs_cons g1 (pgs_cons g2 pgs_nil rfl) rfl) rfl rfl) fun v σ H Q ⟨Z, S, d, S', s, r, hb, q⟩ => ?_
  unfold bindG at hb
  dsimp only at hb
  split at hb
  · cases hb
  · rename_i hio
    split at hb
    · split at hb
      · rename_i da ds hl
        obtain ⟨a, xs, rfl, ht, rs⟩ := r.tup_inv
        cases rs with
        | cons r1 rs =>
          cases rs with
          | cons r2 rs =>
            cases rs
            have mi : ∀ b, e.M b → i ≠ 0 := fun b mb z => by
              cases q2 : c.io with
              | false => exact ok.io q2 b mb
              | true => rw [q2] at hio; exact hio (by simp [z])
            have hb2 : bindG c (.tup is) (.tuple ds) (S.set i (.fro da)) = some S' := by
              unfold bindG
              dsimp only
              rw [if_neg (fun z => hio (by rw [Bool.and_eq_true] at z ⊢; exact ⟨z.1, by rw [z.2, Bool.or_true]⟩)), if_pos hl]
              exact hb
            exact ⟨a, _, rfl, ht, rfl, _, _, rfl, _, _, rfl, Z, _, _, S', s.setF r1 mi, r2, hb2, fun σ' s' o => ⟨rfl, q σ' s' ⟨by rw [o.1]; simp, fun j hj => by
              have n1 : j ∉ is := fun z => hj (by simp [z])
              have n2 : i ≠ j := fun z => hj (by simp [z])
              rw [o.2 j n1, List.getElem?_set_ne n2]⟩⟩⟩
      · cases hb
    · cases hb
theorem dg_of (ok : CxOk st sc c e W X) {raw : Scope} (hr : ∀ y, raw.names.lookup y = some .cell → X.fn y = true) {t : CG} {tg : Expr} (h : chkG st.N sc raw t tg = true) : PG X tg (tGt X.K e t.slots (bindG c t)) := by
  cases t with
  | name i =>
    cases tg with
    | Name x pos =>
      simp only [chkG, Bool.and_eq_true] at h
      exact dg_name ok hr (of_decide_eq_true h.1) h.2
    | _ => cases h
  | tup is =>
    cases tg with
    | Tuple es k pos => exact dg_tup ok hr h
    | _ => cases h
  | nst i is =>
    dsimp only [chkG] at h
    split at h
    · rename_i x p1 ts k2 p2 k3 p3
      simp only [Bool.and_eq_true, decide_eq_true_eq] at h
      exact dg_nst ok hr h.1.1 h.1.2 h.2
    · cases h
end
end Dv

namespace Dv
open PySem PySem.Spec L2
theorem bind_one {qual y : Str} {apos : Pos} {body : Expr} {scope : Scope} {pm v cdv ctv : Value} :
    bindArgs (PySem.W.kla_fn "<lambda>" qual ⟨[], [⟨y, none, apos⟩], none, [], [], none, []⟩ body scope [] pm cdv ctv) ⟨[v], []⟩ = pure [(y, v)] := by
  have e : seqItems? Value.none = (pure none : Sem _) := rfl
  unfold bindArgs
  simp [e]
section
variable {st : Sta} {sc : Scope} {c : Cfg} {e : Ent} {W : WX} {X : Cx} {fa : Sto → Res D} {x : Expr} {pos q : Pos}
theorem keys_of {ky : Ky} {xs ds : List D} (h : dSortK ky (.list xs) = some ds) : (∀ d ∈ xs, kyE ky d = some (keyD ky d) ∧ nolD d = true) ∧ PySem.W.AllAlike (xs.map (keyD ky)) ∧ PySem.W.Sortable (xs.map (keyD ky)) ∧ (∀ d ∈ xs, (keyD ky d).depth ≤ 60) ∧ ds = xs.mergeSort (PySem.W.dataLe false (keyD ky)) := by
  unfold dSortK at h
  simp only at h
  split at h
  case isFalse => cases h
  rename_i hc
  simp only [Bool.and_eq_true, decide_eq_true_eq, List.all_eq_true] at hc
  cases h
  refine ⟨fun d hd => ?_, allAlike_of hc.1.1.2, sortable_of hc.1.2, fun d hd => ?_, rfl⟩
  · obtain ⟨h1, h2⟩ := hc.1.1.1 d hd
    obtain ⟨k, hk⟩ := Option.isSome_iff_exists.mp h1
    exact ⟨by unfold keyD; rw [hk]; rfl, h2⟩
  · exact Nat.le_trans (depthAll_mem (List.mem_map_of_mem hd)) hc.2
theorem d_sortK (ok : CxOk st sc c e W X) {ky : Ky} {y : Str} {body : Expr} {scope : Scope} {apos lpos kpos : Pos} (hgx : st.gx = true) (hlm : st.lam = true) (hg : glB sc "sorted" = true) (hbl : st.bl.contains "sorted" = true) (hln : (!ky.lens || st.bl.contains "len") = true)
    (hsc : kyScope y ky.lens scope = true) (hch : chkY y ky body = true) (hx : plainE x = true) (ha : PE X x (tE X.K X.mg W e fa)) :
    PE X (.Call (.Name "sorted" q) [x] [⟨some "key", .Lambda ⟨[], [⟨y, none, apos⟩], none, [], [], none, []⟩ body scope lpos, kpos⟩] pos) (tF X.K X.mg W e fun S => (fa S).bind fun d S1 => Res.of ((dSortK ky d).map Ow.lst) S1) := by
  obtain ⟨g1, g2, g3⟩ := gl_of ok.sc hg
  obtain ⟨hr, cd, P, hcd, TB, hT, hq⟩ := ok.tab hgx
  rw [hlm, if_pos rfl] at hq
  refine ⟨fun pins s σ H Q I ⟨Z, S, s0, h⟩ => ?_⟩
  refine wpAny_Call_Name_kw (ld_blt I g1 (ok.bl _ hbl) (show bootBuiltins "sorted" = some (.builtin "sorted") by decide +kernel) ?_ g3 g2)
  refine PyProof.Rows.callWith_kw (thn ((pa_cons ha pa_nil (star_cons hx)).run pos pins s σ H (fun vs H1 => ∃ v, vs = [v] ∧ ∃ Z1 d S1, fa S = .ok d S1 ∧ Step Z H Z1 H1 ∧ SR X.K e Z1 H1 σ S1 ∧ R X.K Z1 H1 v d ∧ Aft X.K X.mg W e Z1 H1 σ (Res.of ((dSortK ky d).map Ow.lst) S1) (RelF X.K e σ) Q) I ?_) fun us s1 ⟨vs, H1, I1, r1, v, ev, Z1, d, S1, _, st1, s1r, rd, h1⟩ => ?_) (by rw [star_cons hx]; rfl) (by rw [star_cons hx]; rfl) (by rfl) (by rfl)
  · exact ⟨Z, S, s0, (Aft.bind (Rel := RelD X.K) h).mono fun v1 H1 ⟨Z1, d, S1, e1, st1, s1, r1, h1⟩ => ⟨v1, rfl, Z1, d, S1, e1, st1, s1, r1, h1⟩⟩
  subst ev
  obtain ⟨o, ho, h2⟩ := Aft.of h1
  cases hs : dSortK ky d with
  | none => rw [hs] at ho; cases ho
  | some ds =>
  rw [hs] at ho
  cases ho
  obtain ⟨xs, rfl⟩ : ∃ xs, d = .list xs := by
    unfold dSortK at hs
    split at hs
    · exact ⟨_, rfl⟩
    · cases hs
  obtain ⟨k1, k2, k3, k4, k5⟩ := keys_of hs
  obtain ⟨a, ys, rfl, hl, rs⟩ := rd.lst_inv
  obtain rfl := Vals.ref1 r1
  -- the lambda
  refine wpAny_evalAll_cons (wpAny_bind ?_)
  refine lam_mk I1 TB hcd rfl ⟨_, (s1r.tb P hT).choose_spec.1, (s1r.tb P hT).choose_spec.2.1, fun p cv hc => (s1r.tb P hT).choose_spec.2.2 _ hq p cv hc⟩ rfl (fun z hz hf => ?_) fun f c' pm ctv H2 s2 I2 kp hT2 hf hc' => ?_
  · unfold kyScope at hsc
    simp only [Bool.and_eq_true, List.all_eq_true] at hsc
    have := hsc.1.1.1.2 z hz
    rw [hf] at this
    cases this
  refine wpAny_bind (wpAny_standAt (wpAny_pure ?_))
  refine wpAny_evalAll_nil ?_
  show wpAny (model X.prog X.w) X.A (call (.builtin "sorted") [.ref a] [(Str.ofString "key", .ref f)]) (EP X pins σ Q) X.xe s2
  -- the heap that the lambda's making left
  obtain ⟨ps2, p1, p2, p3⟩ := hT2
  obtain ⟨ps1, q1, _, _⟩ := s1r.tb P hT
  have ch : Chg e.T (fun _ => False) Z1 H1 Z1 H2 := {
    z := fun _ h => h
    n := fun _ h => .inl h
    h := fun b o hb _ nt => kp b o (fun z => nt (z ▸ hT)) hb
    i := fun b hz z => by
      cases w : H1 b with
      | none => exact s1r.zi b hz w
      | some o => rw [kp b o (fun z2 => s1r.tz P hT (z2 ▸ hz)) w] at z; cases z
    t := fun b hb z => by
      by_cases hp : b = P
      · rw [hp, p1] at z; cases z
      · cases w : H1 b with
        | none => exact hb w
        | some o => rw [kp b o hp w] at z; cases z
    m := fun _ h => h.elim
    tz := s1r.tz
    tg := fun b t => by
      by_cases hp : b = P
      · rw [hp]
        refine ⟨ps2, p1, p2, fun q z => ?_⟩
        rw [hq] at z
        cases z
        exact p3
      · obtain ⟨ps, e1, e2, e3⟩ := s1r.tb b t
        exact ⟨ps, kp _ _ hp e1, e2, fun q z pos cv hc => by
          obtain ⟨c, g1, g2⟩ := e3 q z pos cv hc
          exact ⟨c, g1, kp _ _ (fun w => by rw [w, q1] at g2; exact LamX.codeO_ne _ (Option.some.inj g2).symm) g2⟩⟩ }
  have s2r : SR X.K e Z1 H2 σ S1 := s1r.chg ch (fun _ h => h.elim) (fun _ h => h.elim) fun _ h => h.elim
  have rs2 : Rs X.K Z1 H2 ys xs := Rs.step ch.step rs
  have rd2 := R.step ch.step rd
  obtain ⟨a', ys', ea, hl2, rs3⟩ := rd2.lst_inv
  cases ea
  obtain ⟨its, rv, hp, hz⟩ := I2.list hl2
  have hlen := rs3.length
  have hvl := rv.length
  have e1 : (ys'.zip xs).map (·.2) = xs := zip_snd hlen
  have e2 : ∀ g : D → D, (ys'.zip xs).map (fun b => g b.2) = xs.map g := fun g => by
    conv => rhs; rw [← e1]
    rw [List.map_map]
    rfl
  have each := each_zip rs3 rv
  obtain ⟨mb, m1, m2⟩ := I2.mod.blt
  obtain ⟨⟨oc, vs2, t2, hoc, hdc, hvc⟩, _, _⟩ := I2.hok c' _ hc'
  refine PySem.W.sorted_key_data (bs := ys'.zip xs) (k := fun b => keyD ky b.2) (R := fun u b => RelV b.1 u ∧ R X.K Z1 H2 b.1 b.2) (vs := its) (f := .ref f) (b := false) hp.isList each (by rw [e2]; exact k2) (by rw [e2]; exact k3) (by rw [List.length_zip]; omega) ?_ (PyProof.Rows.ksk_s1 _ _) (fun _ => PyProof.Rows.ksk_l1 _ _) (fun z => PyProof.Rows.ksk_t1 f z) ?_ ?_
  · intro b hb
    have : b.2 ∈ xs := by rw [← e1]; exact List.mem_map_of_mem hb
    have := k4 _ this
    have := ok.units
    omega
  · intro v b hv hb h tk kph
    have mb2 : b.2 ∈ xs := by rw [← e1]; exact List.mem_map_of_mem hb
    obtain ⟨k5, k6⟩ := k1 _ mb2
    obtain ⟨as, rr⟩ := hv.2.rds I2 hv.1
    obtain rfl := reads_nol rr k6
    refine lam_key (h0 := s2.heap) (mg := X.mg) (mb := mb) { s2 with heap := h, toks := tk } hsc hch k5 ?_ hf ⟨c', oc, vs2, t2, rfl, hoc, hdc, hvc⟩ I2.nolimit bind_one (I2.mod.glob.keeps I2.bk) (fun hl => ?_) (m1.keeps I2.bk) ((m2 "len" (by decide)).trans PySem.boot_len) rr kph (I2.nolimit.keeps kph)
    · have := hr.depth
      exact this
    · rw [hl] at hln
      exact ok.bl _ hln
  · intro out c2 h' tk kph fr n2 ho eo
    obtain ⟨v1, r2⟩ := each_unzip eo
    have e3 := PySem.W.sort_maps (r := PySem.W.dataLe false (fun b : V × D => keyD ky b.2)) (s := PySem.W.dataLe false (keyD ky)) (l := ys'.zip xs) (fun b : V × D => b.2) (fun _ _ _ _ => rfl)
    rw [e1, ← k5] at e3
    rw [e3] at r2
    have hp0 : H2 (s2.heap.objs.size + 1) = none := I2.hok.fresh (Nat.le_succ _)
    have J := I2.laid (a := s2.heap.objs.size + 1) (o := .lst (((ys'.zip xs).mergeSort (PySem.W.dataLe false (fun b => keyD ky b.2))).map (·.1))) (t' := tk) (h' := h') kph (Nat.le_succ _) ⟨by rw [List.length_map, List.length_mergeSort, List.length_zip]; omega, out, c2, v1, n2⟩
    obtain ⟨g2, rf⟩ := relF_new s2r hp0 r2
    exact ⟨V.ref _, _, J, rfl, h2 _ Z1 _ (ch.step.trans g2.step) (s2r.grow g2) rf⟩
end
end Dv

set_option maxHeartbeats 1000000
/-! any, all of a generator expression whose element does whatever it likes -/
namespace Dv
open PySem PySem.Spec PyProof.Rows L2 GenW

/-! ### the consumer -/
section consumer
variable {prog : Program} {w : World} {A : Around} {a : Addr}
/-- one more item is asked for -/
def Nxt (prog : Program) (w : World) (A : Around) (a : Addr) (P : Nat → Shared → Prop) (stp : Bool) (R : Bool → Shared → Prop) (n : Nat) (s : Shared) : Prop :=
  wpAny (model prog w) A (pyNext (.ref a)) (fun r s' => match r with
    | none => R (!stp) s'
    | some v => ∃ k, v = .bool k ∧ if k = stp then R stp s' else ∃ n', n' < n ∧ P n' s') (fun _ _ => False) s
theorem all_loop {R : Result → Shared → Prop} {P : Nat → Shared → Prop} (h : ∀ n s, P n s → Nxt prog w A.in1 a P false (fun b s' => R (.ok (.ret (.bool b))) s') n s) :
    ∀ n s, P n s → codeAny (model prog w) A (.builtin "all.loop" ⟨[.ref a], []⟩) R s := by
  intro n
  induction n using Nat.strongRecOn with
  | ind n ih =>
    intro s hp
    refine codeAny_builtin F.entry_all_loop ?_
    rw [Around.under_plainId F.plain_all_loop _]
    show wpAny _ A.in1 (pyNext (.ref a) >>= _) _ _ s
    refine wpAny_bind (wpAny_mono (h n s hp) (fun r s' hr => ?_) fun _ _ z => z.elim)
    cases r with
    | none => exact wpAny_bind (wpAny_rule (wpAny_pure hr))
    | some v =>
      obtain ⟨k, rfl, hk⟩ := hr
      refine wpAny_bind (wpAny_holding (wpAny_truthy_bool (wpAny_bind (wpAny_letGo ?_))))
      cases k with
      | true =>
        obtain ⟨n', hn, hp'⟩ := hk
        exact wpAny_pure ⟨plainId_quiet F.plain_all_loop _, ih n' hn s' hp'⟩
      | false => exact wpAny_bind (wpAny_rule (wpAny_pure hk))
theorem any_loop {R : Result → Shared → Prop} {P : Nat → Shared → Prop} (h : ∀ n s, P n s → Nxt prog w A.in1 a P true (fun b s' => R (.ok (.ret (.bool b))) s') n s) :
    ∀ n s, P n s → codeAny (model prog w) A (.builtin "any.loop" ⟨[.ref a], []⟩) R s := by
  intro n
  induction n using Nat.strongRecOn with
  | ind n ih =>
    intro s hp
    refine codeAny_builtin F.entry_any_loop ?_
    rw [Around.under_plainId F.plain_any_loop _]
    show wpAny _ A.in1 (pyNext (.ref a) >>= _) _ _ s
    refine wpAny_bind (wpAny_mono (h n s hp) (fun r s' hr => ?_) fun _ _ z => z.elim)
    cases r with
    | none => exact wpAny_bind (wpAny_rule (wpAny_pure hr))
    | some v =>
      obtain ⟨k, rfl, hk⟩ := hr
      refine wpAny_bind (wpAny_holding (wpAny_truthy_bool (wpAny_bind (wpAny_letGo ?_))))
      cases k with
      | false =>
        obtain ⟨n', hn, hp'⟩ := hk
        exact wpAny_pure ⟨plainId_quiet F.plain_any_loop _, ih n' hn s' hp'⟩
      | true => exact wpAny_bind (wpAny_rule (wpAny_pure hk))
/-- all or any, by what stops it -/
def qName (stp : Bool) : String := if stp then "any" else "all"
theorem quant_call {E : Value → Shared → Prop} {s : Shared} {x : Value} {Q : Value → Shared → Prop} (stp : Bool)
    (h : wpAny (model prog w) A.in1 (pyIter x) (fun it s2 => ∃ (a : Addr) (P : Nat → Shared → Prop) (n : Nat), it = .ref a ∧ P n s2 ∧ ∀ n s, P n s → Nxt prog w A.in1 a P stp (fun b s' => Q (.bool b) s') n s) E s) :
    wpAny (model prog w) A (call (.builtin (qName stp)) [x]) Q E s := by
  cases stp with
  | false =>
    refine call_function_tree F.kind_all F.plain_all F.entry_all (F.args_all1 _) ?_
    unfold Builtin.«all»
    refine wpAny_bind (m := oneArg "all" _) (wpAny_pure ?_)
    refine wpAny_bind (wpAny_mono h (fun it s2 h2 => ?_) fun _ _ e => e)
    obtain ⟨a, P, n, rfl, hp, hst⟩ := h2
    exact wpAny_pure ⟨plainId_quiet F.plain_all_loop _, all_loop (fun n s p => hst n s p) n s2 hp⟩
  | true =>
    refine call_function_tree F.kind_any F.plain_any F.entry_any (F.args_any1 _) ?_
    unfold Builtin.«any»
    refine wpAny_bind (m := oneArg "any" _) (wpAny_pure ?_)
    refine wpAny_bind (wpAny_mono h (fun it s2 h2 => ?_) fun _ _ e => e)
    obtain ⟨a, P, n, rfl, hp, hst⟩ := h2
    exact wpAny_pure ⟨plainId_quiet F.plain_any_loop _, any_loop (fun n s p => hst n s p) n s2 hp⟩
end consumer

/-! ### the generator -/
abbrev gexE (elt tg iter : Expr) (ifs : List Expr) (scope : Scope) (gpos : Pos) : Expr := .GeneratorExp elt [⟨tg, iter, ifs, 0⟩] scope gpos
/-- while it sleeps nothing changes but the table of generators and the tokens -/
structure Woke (s s' : Shared) : Prop where
  heap : s'.heap = s.heap
  os : s'.os = s.os
  bare : AllBare s'.gens
theorem Inv.woke {X : Cx} {pins : List (Addr × Obj)} {σ : L2.St} {H : Hp} {s s' : Shared} (I : Inv X pins σ H s) (z : Woke s s') : Inv X pins σ H s' := by
  obtain ⟨h', g', d', t', o'⟩ := s'
  obtain ⟨z1, z2, z3⟩ := z
  have z1 : h' = s.heap := z1
  have z2 : o' = s.os := z2
  subst z1 z2
  exact I.step (g' := g') (t' := t') (d' := d') (ch := []) (fun _ hb => nomatch hb) (fun _ _ _ _ _ e _ => e) (fun _ o _ _ _ e _ => ⟨o.slots, e⟩) (fun _ _ _ _ n => n) (fun _ o _ e => ⟨o, e⟩) (fun _ _ e => e) (fun _ _ _ e => e) (fun _ ps e => ⟨#[], by rw [e]; simp⟩) (fun _ h => h) I.hok z3
/-- what the turns ask; stp: the answer that stops -/
def GenSteps (J : It) (g : TG) (tt : TT) (te : TE) (vs : List Nat) (σ : L2.St) (stp : Bool) (Q : VK) (W : Nat → Nat → Hp → Prop) : Prop := ∀ i m H, W i m H →
  (J.stop i H ∧ Q (.bl (!stp)) H) ∨ (J.go i H ∧ ∃ Nx : Hp → Prop, (∀ H', Nx H' → ∃ m', m' < m ∧ W (i + 1) m' H') ∧ ∀ x H', J.yld i H x H' → g x (wipe σ vs) H' fun σ2 H2 => wipe σ2 vs = wipe σ vs ∧ tt σ2 H2 fun b H3 =>
    if b = true then te σ2 H3 fun y H4 => ∃ k, y = .bl k ∧ (if k = stp then Q (.bl stp) H4 else Nx H4) else Nx H3)
def genR (Y : Cx) (pins : List (Addr × Obj)) (σ0 : L2.St) (stp : Bool) (Q : VK) : GenEnd := fun _ _ r s => r = .ok .next ∧ ∃ H, Inv Y pins σ0 H s ∧ Q (.bl (!stp)) H
def genY (Y : Cx) (pins : List (Addr × Obj)) (σ0 : L2.St) (stp : Bool) (Q : VK) : Protocol := fun _ _ v s kap => ∃ k H, v = .bool k ∧ Inv Y pins σ0 H s ∧ if k = stp then Q (.bl stp) H else ∀ s', Woke s s' → kap (.send .none) s'
section
variable {Y : Cx} {A : Around} {J : It} {fp : List Addr} {it : Addr} {tn : Nat → Heap → Prop} {pins : List (Addr × Obj)} {σ : L2.St} {vs : List Nat} {g : TG} {tt : TT} {te : TE} {stp : Bool} {Q : VK} {W : Nat → Nat → Hp → Prop}
variable {elt tg iter : Expr} {ifs : List Expr} {scope : Scope} {gpos : Pos}
theorem gen_seg (hA : A.over (.compLoop (gexE elt tg iter ifs scope gpos) 0 (.ref it) .none Y.env) [] = Y.A) (hc : Y.calm = true) (hco : Y.env.scope.isCoroutine = false) (hx : Y.xe = fun _ _ => False)
    (hfp : ∀ b ∈ fp, b ∈ Y.ex ∧ ∀ p ∈ Y.pn ++ pins, p.1 ≠ b) (T : Turn Y.prog Y.w Y.K tg J fp it tn) (pg : PG Y tg g) (pt : PTs Y ifs tt) (pe : PE Y elt te) (st : GenSteps J g tt te vs σ stp Q W) :
    ∀ (m n i : Nat) (s0 s : Shared) (H : Hp), m < n → W i m H → Inv Y pins (wipe σ vs) H s → tn i s.heap → (∀ b ∈ fp, H b = none) →
      Seg (model Y.prog Y.w) A (genR Y pins (wipe σ vs) stp Q) (genY Y pins (wipe σ vs) stp Q) n s0 (.compLoop (gexE elt tg iter ifs scope gpos) 0 (.ref it) .none Y.env)
        ((model Y.prog Y.w).den (.compLoop (gexE elt tg iter ifs scope gpos) 0 (.ref it) .none Y.env)) [] s := by
  have fine : ∀ {σ' : L2.St} {H' : Hp} {s' : Shared}, Inv Y pins σ' H' s' → (∀ b ∈ fp, H' b = none) → ∀ b ∈ fp, FpOk Y pins H' b := fun {σ' H' s'} I' hn b hb =>
    ⟨hn b hb, (I'.ok.exf b (hfp b hb).1).1, I'.ok.exfs b (hfp b hb).1, .inl (hfp b hb).1, fun x c e => (I'.ok.exf b (hfp b hb).1).2 x c e, (hfp b hb).2⟩
  intro m
  induction m using Nat.strongRecOn with
  | ind m ih =>
    intro n i s0 s H hmn hw I hst hn
    obtain ⟨n, rfl⟩ : ∃ k, n = k + 1 := ⟨n - 1, by omega⟩
    show Seg _ A _ _ _ s0 _ ((compTurn (gexE elt tg iter ifs scope gpos) 0 (.ref it) .none Y.env).onRaise (leaving Y.env)) [] s
    rw [compTurn_gen, Sem.onRaise_eq_wrap]
    refine seg_bind_wrap (wpAny_standAt ?_)
    rcases st i m H hw with ⟨stop, q⟩ | ⟨go, Nx, hNx, step⟩
    · refine seg_bind_wrap ?_
      rw [hA]
      refine thnF (T.done Y rfl rfl rfl hc i pins s _ H (fun _ _ => False) I (fine I hn) hst stop) fun r s1 ⟨hr, I1⟩ => ?_
      subst hr
      exact seg_end (.ok .next) ⟨rfl, H, I1, q⟩
    · refine seg_bind_wrap ?_
      rw [hA]
      refine thnF (T.item Y rfl rfl rfl hc i pins s _ H (fun _ _ => False) I (fine I hn) hst go) fun r s1 ⟨u, hr, h1⟩ => ?_
      subst hr
      refine seg_bind_wrap ?_
      rw [hA]
      refine thnF h1 fun _ s2 ⟨x, H2, I2, r2, y2, st2, n2⟩ => ?_
      have I2' := I2.pinned (fine I2 n2) (T.obj _ _ st2)
      refine seg_bind_wrap ?_
      rw [hA]
      have h3 := pg.run _ s2 _ H2 x u _ I2' r2 (step x H2 y2)
      rw [hx] at h3
      refine thnF h3 fun _ s3 ⟨σ3, H3, I3, hw3, q3⟩ => ?_
      refine seg_bind_wrap ?_
      rw [hA]
      have h4 := pt.run _ s3 σ3 H3 _ I3 q3
      rw [hx] at h4
      refine thnF h4 fun b s4 ⟨H4, I4, q4⟩ => ?_
      -- a turn's end
      have fin : ∀ {s' : Shared} {H' : Hp}, Inv Y (pins ++ pinsAt fp s2.heap) σ3 H' s' → Inv Y pins (wipe σ vs) H' s' ∧ tn (i + 1) s'.heap ∧ ∀ b ∈ fp, H' b = none := fun {s' H'} I' => by
        have pin' : ∀ b ∈ fp, ∀ o, s2.heap.get? b = some o → s'.heap.get? b = some o ∧ H' b = none := fun b hb o e =>
          let z := I'.pin (b, o) (List.mem_append_right _ (List.mem_append_right _ (mem_pinsAt hb e)))
          ⟨z.1, z.2.1⟩
        have hl : (wipe σ vs).length = σ3.length := by rw [← hw3, wipe_length]
        refine ⟨(I'.unpinned (pins := pins)).weak hl fun j v e => ?_, T.keep _ _ _ st2 fun b hb o e => (pin' b hb o e).1, fun b hb => ?_⟩
        · rw [← hw3] at e
          exact (wipe_some e).1
        · obtain ⟨o, e, _⟩ := T.obj _ _ st2 b hb
          exact (pin' b hb o e).2
      cases b with
      | false =>
        simp only [Bool.false_eq_true, if_false] at q4 ⊢
        obtain ⟨m', hm, w'⟩ := hNx H4 q4
        obtain ⟨J1, J2, J3⟩ := fin I4
        exact seg_again rfl (ih m' hm (n + 1) (i + 1) s0 s4 H4 (by omega) w' J1 J2 J3)
      | true =>
        simp only [if_true] at q4 ⊢
        have hy : ∀ v, yieldOut Y.env v = yieldValue v := fun v => by simp only [yieldOut, hco, Bool.false_eq_true, if_false]
        simp only [hy]
        rw [Sem.bind_eq_wrap', Sem.bind_eq_wrap', Sem.wrap_wrap, Sem.wrap_wrap]
        refine seg_wrap ?_
        rw [hA]
        have h5 := pe.run _ s4 σ3 H4 _ I4 q4
        rw [hx] at h5
        refine thnF h5 fun v s5 ⟨yv, H5, I5, r5, k, ek, q5⟩ => ?_
        subst ek
        obtain rfl : v = Value.bool k := r5
        obtain ⟨J1, J2, J3⟩ := fin I5
        refine seg_at (seg_yield rfl rfl rfl ⟨k, H5, rfl, J1, ?_⟩)
        split
        · rename_i hk
          rw [if_pos hk] at q5
          exact q5
        · rename_i hk
          rw [if_neg hk] at q5
          obtain ⟨m', hm, w'⟩ := hNx H5 q5
          intro s6 z
          exact seg_again rfl (ih m' hm n (i + 1) s6 s6 H5 (by omega) w' (Inv.woke J1 z) (by rw [z.heap]; exact J2) J3)
/-- it has not begun yet -/
theorem gen_start {n : Nat} {s0 s : Shared} (hst : tn 0 s.heap) (T : Turn Y.prog Y.w Y.K tg J fp it tn)
    (loop : Seg (model Y.prog Y.w) A (genR Y pins (wipe σ vs) stp Q) (genY Y pins (wipe σ vs) stp Q) n s0 (.compLoop (gexE elt tg iter ifs scope gpos) 0 (.ref it) .none Y.env)
        ((model Y.prog Y.w).den (.compLoop (gexE elt tg iter ifs scope gpos) 0 (.ref it) .none Y.env)) [] s) :
    Seg (model Y.prog Y.w) A (genR Y pins (wipe σ vs) stp Q) (genY Y pins (wipe σ vs) stp Q) n s0 (.compStart (gexE elt tg iter ifs scope gpos) 0 (.ref it) .none Y.env)
        ((model Y.prog Y.w).den (.compStart (gexE elt tg iter ifs scope gpos) 0 (.ref it) .none Y.env)) [] s := by
  show Seg _ A _ _ _ s0 _ ((compStart (gexE elt tg iter ifs scope gpos) 0 (.ref it) .none Y.env).onRaise (leaving Y.env)) [] s
  unfold compStart
  rw [Sem.onRaise_eq_wrap]
  show Seg _ A _ _ _ s0 _ ((ask >>= _).wrap _ _ _ _) [] s
  refine seg_bind_wrap (wpAny_askSetting ?_)
  split
  · exact seg_again rfl loop
  · refine seg_bind_wrap (wpAny_rule ?_)
    show Seg _ A _ _ _ s0 _ ((standAt iter.pos >>= _).wrap _ _ _ _) [] s
    exact seg_bind_wrap (wpAny_standAt (seg_bind_wrap (T.self _ 0 s _ _ hst (seg_again rfl loop))))
end

/-! ### asleep -/
theorem bare_set {s : Shared} {g : Nat} {x : GenState} (h : AllBare s.gens) (hx : x.bare = true) : AllBare (s.setGen g x).gens := by
  by_cases hg : g < s.gens.size
  · exact h.moved (GenOnlyQ.of (GenOnly.setGen s g x) (by simp [Shared.setGen, hg]) hx)
  · have e : (s.setGen g x).gens = s.gens := by
      simp only [Shared.setGen]
      exact Array.setIfInBounds_eq_of_size_le (by omega)
    rw [e]
    exact h
theorem set_get {s : Shared} {g : Nat} {x : GenState} (h : g + 1 ≤ (s.setGen g x).gens.size) : (s.setGen g x).gens[g]? = some x := by
  have h' : g < s.gens.size := by
    have e : (s.setGen g x).gens.size = s.gens.size := setGen_size s g x
    omega
  simp [Shared.setGen, h']
def Asleep (Y : Cx) (A : Around) (pins : List (Addr × Obj)) (σ0 : L2.St) (stp : Bool) (Q : VK) (g : Nat) (n : Nat) (s : Shared) : Prop :=
  ∃ H, Inv Y pins σ0 H s ∧ ∃ gs, s.gens[g]? = some gs ∧ ∀ s', Woke s s' → gs.Goes (model Y.prog Y.w) A.in1 (genR Y pins σ0 stp Q) (genY Y pins σ0 stp Q) n (.send .none) s'
theorem asleep_next {Y : Cx} {A : Around} {pins : List (Addr × Obj)} {σ0 : L2.St} {stp : Bool} {Q : VK} {g n : Nat} {s : Shared} {a : Addr} {go : Obj} (hh : A.handled = none) (hroom : A.depth < recursionLimit)
    (hp : (a, go) ∈ pins) (hgo : ∀ h : Heap, h.get? a = some go → h.IsGen a g) (hs : Asleep Y A pins σ0 stp Q g n s) :
    Nxt Y.prog Y.w A a (Asleep Y A pins σ0 stp Q g) stp (fun b s' => ∃ H, Inv Y pins σ0 H s' ∧ Q (.bl b) H) n s := by
  obtain ⟨H, I, gs, hgs, hg⟩ := hs
  have hsz : g + 1 ≤ s.gens.size := by
    obtain ⟨h, _⟩ := Array.getElem?_eq_some_iff.mp hgs
    exact h
  refine wpAny_gsz hsz (wpAny_pyNext_genexpQ (gs := gs) (P := fun _ _ s => ∃ H, Inv Y pins σ0 H s ∧ Q (.bl (!stp)) H) (Y := genY Y pins σ0 stp Q) (n := n) hh I.nolimit hroom
    (hgo _ (I.pin (a, go) (List.mem_append_right _ hp)).1) hgs (hg _ ⟨rfl, rfl, bare_set I.bare rfl⟩) (fun v s1 gs' hb hv => ?_) (fun s1 h1 h' hk => ?_))
  · obtain ⟨k, H1, rfl, I1, q⟩ := hv
    intro hsz1
    have z : Woke s1 (s1.setGen g gs') := ⟨rfl, rfl, bare_set I1.bare hb⟩
    refine ⟨k, rfl, ?_⟩
    split
    · rename_i hk
      rw [if_pos hk] at q
      exact ⟨H1, Inv.woke I1 z, q⟩
    · rename_i hk
      rw [if_neg hk] at q
      cases n with
      | zero => exact (q s1 ⟨rfl, rfl, I1.bare⟩).elim
      | succ m =>
        refine ⟨m, Nat.lt_succ_self m, H1, Inv.woke I1 z, gs', set_get hsz1, fun s' z' => q s' ⟨z'.heap, z'.os, z'.bare⟩⟩
  · obtain ⟨H1, I1, q⟩ := h1
    intro _
    have I2 : Inv Y pins σ0 H1 (s1.setGen g .finished) := Inv.woke I1 ⟨rfl, rfl, bare_set I1.bare rfl⟩
    exact ⟨H1, I2.kept (t' := (s1.setGen g .finished).toks) hk, q⟩

/-! ### the generator's own context -/
abbrev genCx (X : Cx) (A : Around) (s4 : Shared) (H : Hp) (cenv : Env) (fp : List Addr) : Cx :=
  { X with A := A, s_0 := s4, H_0 := H, env := cenv, outer := X.stack, stack := cenv :: X.stack, ex := fp, fn := fun _ => false, calm := true, pn := [], xe := fun _ _ => False }
abbrev gEnv (X : Cx) (scope : Scope) (L : Addr) (code : Value) : Env := genEnv scope (cloFrom X.env.cells scope.names []) L code builtinsNs X.env
theorem gen_begin {X : Cx} {A : Around} {pins : List (Addr × Obj)} {σ : L2.St} {H : Hp} {s4 : Shared} {scope : Scope} {own : List (Str × Nat)} {fp : List Addr} {code : Value} {h' : Heap} {m : Str → Option Value} {go fr : Obj} {gs : GenState} {tk : Nat}
    (I : Inv X pins σ H s4) (hN : X.N.Nodup) (ok : BlkOk X.N X.env.scope scope own) (hcell : ∀ y ∈ scope.names, y.2 ≠ .cell) (hd : A.handled = none) (hfr : A.frames = some (gEnv X scope s4.heap.objs.size code :: X.stack))
    (hfp : ∀ b ∈ fp, FpOk X pins H b ∧ b < s4.heap.objs.size) (hn : h'.Ns s4.heap.objs.size m) (hs : Heap.SameBut s4.heap.objs.size (s4.heap.push fr) h') (hgd : ∀ v, go.data ≠ .cell v) (hgf : go.isFreed = false) (hgs : gs.bare = true):
    Inv (genCx X A s4 H (gEnv X scope s4.heap.objs.size code) fp) [(h'.objs.size, go)] (wipe σ (own.map (·.2))) H { s4 with gens := s4.gens.push gs, toks := tk, heap := h'.push go } := by
  have hsz : h'.objs.size = s4.heap.objs.size + 1 := by rw [hs.1, Heap.size_push]
  have kp0 : ∀ b o, s4.heap.get? b = some o → h'.get? b = some o := fun b o e => hs.extBut b o (Nat.ne_of_lt (Heap.lt_size e)) (Heap.get?_push_of_some _ e)
  have kp : ∀ b o, s4.heap.get? b = some o → (h'.push go).get? b = some o := fun b o e => Heap.get?_push_of_some _ (kp0 b o e)
  have hfree : ∀ y ∈ scope.names, y.2 = .free → ∃ c, X.env.cells.lookup y.1 = some c := fun y hy e => I.ok.has _ (ok.free y hy e)
  have cm : ∀ {y c}, (cloFrom X.env.cells scope.names []).lookup y = some c → X.env.cells.lookup y = some c := NdefX.clo_cm hfree
  have look : ∀ {y}, scope.names.lookup y = some .free → ∃ c, (cloFrom X.env.cells scope.names []).lookup y = some c := fun hl =>
    let ⟨c, hc⟩ := hfree _ (PySem.mem_of_lookup hl) rfl
    ⟨c, NdefX.clo_has hfree (PySem.mem_of_lookup hl) hc⟩
  have noCell : ∀ {y}, scope.names.lookup y ≠ some .cell := fun {y} hl => hcell _ (PySem.mem_of_lookup hl) rfl
  have clt : ∀ {y c}, X.env.cells.lookup y = some c → c < s4.heap.objs.size := fun {y c} e => by
    obtain ⟨v, z⟩ := I.cell y c e
    exact z.lt
  have stkLt : ∀ b ∈ frs X.stack, b ≠ s4.heap.objs.size ∧ b ≠ h'.objs.size := fun b hb => by
    have : b < s4.heap.objs.size := by
      obtain ⟨_, o, ho, _⟩ := I.stack.mem hb
      exact Heap.lt_size ho
    constructor
    · exact Nat.ne_of_lt this
    · rw [hsz]; exact Nat.ne_of_lt (Nat.lt_succ_of_lt this)
  refine ⟨⟨I.ok.mod, ok.kind, I.ok.glob, rfl, Nat.le_refl _, fun y z c e1 e2 => I.ok.inj y z c (cm e1) (cm e2), fun y hy => ?_, fun y c z _ => absurd (show false = true from z) Bool.false_ne_true, fun _ => hd, hfr, .inr ⟨rfl, rfl⟩, fun b hb => ⟨Nat.ne_of_lt (hfp b hb).2, fun y c e => (hfp b hb).1.2.2.2.2.1 y c (cm e)⟩, I.bs, Nat.le_trans I.ok.bsz I.sz, fun b o e hb => ?_, fun b hb z => ?_, I.stack, I.stkFree⟩,
    rfl, I.bare.push hgs, Un.kept kp, ⟨m, hn.push _, fun i y v e1 e2 e3 => ?_⟩, fun y c e => ?_, I.hok.fresh (Nat.le_refl _), fun y c e => I.freeC y c (cm e), fun p hp => ?_, I.hok.kept kp, by rw [wipe_length]; exact I.len⟩
  · exact (show _ ∨ _ from hy).elim (fun k => absurd k noCell) look
  · exact (hfp b hb).1.2.2.2.1.elim (I.ok.noex b o e) fun z => absurd (Nat.lt_of_lt_of_le (Heap.lt_size e) (Nat.le_trans I.ok.bsz z)) (Nat.lt_irrefl b)
  · exact (List.mem_cons.mp (I.stkSub b z)).elim (hfp b hb).1.2.1 (hfp b hb).1.2.2.1
  · have kept := wipe_some e2
    -- a name that is still set is none of the block's own: it is captured
    have fr : scope.names.lookup y = some .free := (show Vis scope y from e3).elim (fun k => by
      exfalso
      cases ok.own _ (PySem.mem_of_lookup k) (.inl rfl) with
      | inl mine =>
        have ⟨p, hp, hpy⟩ := List.mem_map.mp mine
        have at_p := ok.ix p hp
        rw [show p.1 = y from hpy] at at_p
        exact kept.2 (List.mem_map.mpr ⟨p, hp, nodup_ix hN at_p e1⟩)
      | inr out => exact out (List.mem_of_getElem? e1)) fun k => k.elim (fun k => absurd k noCell) id
    have outer := ok.free _ (PySem.mem_of_lookup fr) rfl
    have ⟨_, _, hl⟩ := I.loc
    have ⟨w, r, place⟩ := hl i y v e1 kept.1 (.inr outer)
    have ⟨c, hc⟩ := look fr
    refine ⟨w, r, .inr ⟨.inr fr, c, hc, ?_⟩⟩
    cases place with
    | inl k =>
      have k1 : X.env.scope.names.lookup y = some .local := k.1
      rw [k1] at outer
      exact outer.elim (fun h => nomatch h) fun h => nomatch h
    | inr k =>
      have ⟨_, c2, at_c, cell⟩ := k
      rw [cm hc] at at_c
      cases at_c
      exact cell.keeps kp
  · obtain ⟨v, z⟩ := I.cell y c (cm e)
    exact ⟨v, z.keeps kp⟩
  · have hp : p = (h'.objs.size, go) := by
      have hp : p ∈ ([] : List (Addr × Obj)) ++ [(h'.objs.size, go)] := hp
      simpa using hp
    subst hp
    refine ⟨Heap.get?_push_size _ hgf, I.hok.fresh (by show s4.heap.objs.size ≤ h'.objs.size; omega), ?_, fun z => (stkLt _ z).2 rfl, hgd⟩
    show h'.objs.size ≠ s4.heap.objs.size
    omega

theorem over_gen {A : Around} {e : Expr} {it acc : Value} {env : Env} {es : Expr} {gens : List Comprehension} {sc : Scope} {p : Pos} (he : e = .GeneratorExp es gens sc p) : A.over (.compLoop e 0 it acc env) [] = A.deeper env := by
  subst he
  first
    | rfl
    | (obtain ⟨hd, d, fr, gs, u⟩ := A; simp [Around.over, Around.deeper, marksOver, frameCount, unitsOf, envsOf, guardsOf, pushEnvs, pushGuards, Code.envs, Code.env?, Code.isFrame, Code.guards, Code.isGuard, Code.weight, Code.frames, Code.isCreation, Code.isCaller, Code.cUnits])

def qStr (stp : Bool) : Str := if stp then "any" else "all"
theorem boot_q (stp : Bool) : bootBuiltins (qStr stp) = some (.builtin (qName stp)) := by cases stp <;> decide +kernel
/-- any, all: P: the table of the def's code objects, which may have grown -/
def tQuant (P : Addr) (stp : Bool) (wi : TI) (g : TG) (tt : TT) (te : TE) (vs : List Nat) : TE := fun σ H Q => wi σ H fun J H1 => GxR.TabG H1 P ∧ ∀ H2, GxR.Tabbed P H1 H2 → ∃ W : Nat → Nat → Hp → Prop, (∃ m, W 0 m H2) ∧ GenSteps J g tt te vs σ stp Q W
/-- where the element runs -/
abbrev genA (X : Cx) (cenv : Env) : Around := (X.A.in1.in1).deeper cenv
theorem genA_room {X : Cx} {k : Nat} {cenv : Env} (hr : Room (k + 1) X.A) : Room k (genA X cenv) :=
  ⟨hr.hd, by have := hr.dp; show X.A.depth + 1 + 3 * k + 5 < _; omega, by have := hr.un; show X.A.units + 1 + 1 + 3 + 16 * k + 200 < _; omega⟩
theorem pe_quant {X : Cx} {c P : Addr} {elt tg iter : Expr} {ifs : List Expr} {scope : Scope} {own : List (Str × Nat)} {gpos p pos : Pos} {wi : TI} {g : TG} {tt : TT} {te : TE} {k : Nat} (stp : Bool)
    (hr : Room (k + 1) X.A) (hgl : Gl X (qStr stp)) (hm : X.mg (qStr stp) = none) (TB : GxR.TabB X.base X.mg c P) (hcode : X.env.code = .ref c) (hN : X.N.Nodup) (hi : PI X tg iter wi) (ok : BlkOk X.N X.env.scope scope own)
    (hco : scope.isCoroutine = false) (hcell : ∀ y ∈ scope.names, y.2 ≠ .cell) (hdot : scope.names.lookup (".0" : Str) = some NameKind.local)
    (hg : ∀ (s : Shared) (H : Hp) (C : Addr) (code : Value) (fp : List Addr), PG (genCx X (genA X (gEnv X scope C code)) s H (gEnv X scope C code) fp) tg g)
    (ht : ∀ (s : Shared) (H : Hp) (C : Addr) (code : Value) (fp : List Addr), PTs (genCx X (genA X (gEnv X scope C code)) s H (gEnv X scope C code) fp) ifs tt)
    (he : ∀ (s : Shared) (H : Hp) (C : Addr) (code : Value) (fp : List Addr), PE (genCx X (genA X (gEnv X scope C code)) s H (gEnv X scope C code) fp) elt te)
    (hs : ∀ v, genFold iter X.env v = pure v) : PE X (.Call (.Name (qStr stp) p) [gexE elt tg iter ifs scope gpos] [] pos) (tQuant P stp wi g tt te (own.map (·.2))) := by
  refine ⟨fun pins s σ H Q I h => ?_⟩
  have nn : qStr stp ≠ "__name__" := by cases stp <;> decide
  have nd : (qStr stp == ("__debug__" : Str)) = false := by cases stp <;> decide
  refine wpAny_Call_Name_kw (ld_blt I hgl hm (boot_q stp) ?_ nn nd)
  have hes : starEach [gexE elt tg iter ifs scope gpos] X.env = (false, eval (gexE elt tg iter ifs scope gpos) X.env) :: starEach [] X.env := rfl
  refine callWith_builtin1 ?_ hes (by rfl)
  rw [hes]
  show wpAny _ _ (spliced ((false, eval (gexE elt tg iter ifs scope gpos) X.env) :: backTo pos (starEach [] X.env))) _ _ s
  refine Calls.spliced_cons ?_
  have hfree : ∀ y ∈ scope.names, y.2 = .free → ∃ c, X.env.cells.lookup y.1 = some c := fun y hy e => I.ok.has _ (ok.free y hy e)
  refine wpAny_GeneratorExp_make hco (closure_ok hfree) hcell hdot ok.kind (by have := hr.dp; omega) ?_ hs
  refine thn (hi.run pins s σ H _ I h) fun xv s1 hx => thn hx fun itv s2 h2 => ?_
  obtain ⟨it, fp, tn, J, H2, e, I2, T, st2, f2, ⟨ps, hP, htr⟩, q⟩ := h2
  subst e
  refine ⟨I2.nolimit, ?_⟩
  have hPs : s2.heap.get? P = some { cls := .none, data := .fields ps } := I2.hok P _ hP
  have sz : ∀ b ∈ fp, b < s2.heap.objs.size := fun b hb => by
    obtain ⟨o, e, _⟩ := T.obj _ _ st2 b hb
    exact Heap.lt_size e
  have fpP : ∀ b ∈ fp, b ≠ P := fun b hb z => by
    have := (f2 b hb).1
    rw [z, hP] at this
    cases this
  -- behind the code object
  have cont : ∀ (code : Value) (H4 : Hp) (s4 : Shared), GxR.Tabbed P H2 H4 → L2.Inv X pins σ H4 s4 → (∀ b o, b ≠ P → s2.heap.get? b = some o → s4.heap.get? b = some o) →
      ∀ h' : Heap, (h'.Ns s4.heap.objs.size fun y => if y = Str.ofString ".0" then some (Value.ref it) else none) → Heap.SameBut s4.heap.objs.size (s4.heap.push { cls := Value.type "frame", data := Data.dict #[] }) h' →
      wpAny (model X.prog X.w) X.A (spliced (backTo pos (starEach [] X.env))) (fun vs s5 => wpAny (model X.prog X.w) X.A (call (.builtin (qName stp)) (.ref h'.objs.size :: vs)) (EP X pins σ Q) X.xe s5) X.xe
        { s4 with heap := h'.push { cls := Value.type "generator", data := Data.fields #[Value.int (s4.gens.size : Nat) 0, Value.str (Str.ofString "<genexpr>") (s4.toks + 1), Value.str (X.env.qual ++ Str.ofString "<genexpr>") (s4.toks + 1 + 1)] },
                  gens := s4.gens.push (GenState.fresh (Code.compStart (gexE elt tg iter ifs scope gpos) 0 (Value.ref it) Value.none (gEnv X scope s4.heap.objs.size code))), toks := s4.toks + 1 + 1 + 1 } := by
    intro code H4 s4 hT I4 hk4 h' hn' hs'
    refine Calls.spliced_nil ?_
    obtain ⟨W, ⟨m, w0⟩, steps⟩ := q H4 hT
    have f4 : ∀ b ∈ fp, FpOk X pins H4 b ∧ b < s4.heap.objs.size := fun b hb => by
      refine ⟨⟨?_, (f2 b hb).2⟩, ?_⟩
      · rw [hT.2 b (fpP b hb)]
        exact (f2 b hb).1
      · obtain ⟨o, e, _⟩ := T.obj _ _ st2 b hb
        exact Heap.lt_size (hk4 b o (fpP b hb) e)
    have kp4 : ∀ b o, s4.heap.get? b = some o → (h'.push { cls := Value.type "generator", data := Data.fields #[Value.int (s4.gens.size : Nat) 0, Value.str (Str.ofString "<genexpr>") (s4.toks + 1), Value.str (X.env.qual ++ Str.ofString "<genexpr>") (s4.toks + 1 + 1)] }).get? b = some o :=
      fun b o e => Heap.get?_push_of_some _ (hs'.extBut b o (Nat.ne_of_lt (Heap.lt_size e)) (Heap.get?_push_of_some _ e))
    have rm := genA_room (cenv := gEnv X scope s4.heap.objs.size code) hr
    have I5 := gen_begin (A := genA X (gEnv X scope s4.heap.objs.size code)) (go := { cls := Value.type "generator", data := Data.fields #[Value.int (s4.gens.size : Nat) 0, Value.str (Str.ofString "<genexpr>") (s4.toks + 1), Value.str (X.env.qual ++ Str.ofString "<genexpr>") (s4.toks + 1 + 1)] })
      (gs := GenState.fresh (Code.compStart (gexE elt tg iter ifs scope gpos) 0 (Value.ref it) Value.none (gEnv X scope s4.heap.objs.size code))) (tk := s4.toks + 1 + 1 + 1) I4 hN ok hcell rm.hd (Around.frames_deeper I4.ok.frames) f4 hn' hs' (fun v z => by cases z) rfl rfl
    have st5 : tn 0 (h'.push { cls := Value.type "generator", data := Data.fields #[Value.int (s4.gens.size : Nat) 0, Value.str (Str.ofString "<genexpr>") (s4.toks + 1), Value.str (X.env.qual ++ Str.ofString "<genexpr>") (s4.toks + 1 + 1)] }) :=
      T.keep _ _ _ st2 fun b hb o e => kp4 b o (hk4 b o (fpP b hb) e)
    have pg := hg s4 H4 s4.heap.objs.size code fp
    have pt := ht s4 H4 s4.heap.objs.size code fp
    have pe := he s4 H4 s4.heap.objs.size code fp
    have hsz : h'.objs.size = s4.heap.objs.size + 1 := by rw [hs'.1, Heap.size_push]
    have hga : ∀ h : Heap, h.get? h'.objs.size = some { cls := Value.type "generator", data := Data.fields #[Value.int (s4.gens.size : Nat) 0, Value.str (Str.ofString "<genexpr>") (s4.toks + 1), Value.str (X.env.qual ++ Str.ofString "<genexpr>") (s4.toks + 1 + 1)] } → h.IsGen h'.objs.size s4.gens.size :=
      fun h e => ⟨_, _, _, e, rfl, rfl, rfl⟩
    generalize hgo : ({ cls := Value.type "generator", data := Data.fields #[Value.int (s4.gens.size : Nat) 0, Value.str (Str.ofString "<genexpr>") (s4.toks + 1), Value.str (X.env.qual ++ Str.ofString "<genexpr>") (s4.toks + 1 + 1)] } : Obj) = go at *
    have hia : h'.objs.size ∉ fp := fun z => by
      have h1 : h'.objs.size < s4.heap.objs.size := (f4 _ z).2
      rw [hsz] at h1
      exact absurd h1 (Nat.not_lt.mpr (Nat.le_succ _))
    have seg : ∀ s0 s : Shared, (Woke { s4 with heap := h'.push go, gens := s4.gens.push (GenState.fresh (Code.compStart (gexE elt tg iter ifs scope gpos) 0 (Value.ref it) Value.none (gEnv X scope s4.heap.objs.size code))), toks := s4.toks + 1 + 1 + 1 } s) →
        Seg (model X.prog X.w) X.A.in1.in1 (genR (genCx X (genA X (gEnv X scope s4.heap.objs.size code)) s4 H4 (gEnv X scope s4.heap.objs.size code) fp) [(h'.objs.size, go)] (wipe σ (own.map (·.2))) stp Q)
          (genY (genCx X (genA X (gEnv X scope s4.heap.objs.size code)) s4 H4 (gEnv X scope s4.heap.objs.size code) fp) [(h'.objs.size, go)] (wipe σ (own.map (·.2))) stp Q) (m + 1) s0
          (.compStart (gexE elt tg iter ifs scope gpos) 0 (.ref it) .none (gEnv X scope s4.heap.objs.size code)) ((model X.prog X.w).den (.compStart (gexE elt tg iter ifs scope gpos) 0 (.ref it) .none (gEnv X scope s4.heap.objs.size code))) [] s := fun s0 s z => by
      have z1 : s.heap = h'.push go := z.heap
      refine gen_start (Y := genCx X (genA X (gEnv X scope s4.heap.objs.size code)) s4 H4 (gEnv X scope s4.heap.objs.size code) fp) (by rw [z1]; exact st5) T ?_
      exact gen_seg (Y := genCx X (genA X (gEnv X scope s4.heap.objs.size code)) s4 H4 (gEnv X scope s4.heap.objs.size code) fp) (over_gen rfl) rfl hco rfl (fun b hb => ⟨hb, fun p hp z => by
        have hp : p = (h'.objs.size, go) := by
          have hp : p ∈ ([] : List (Addr × Obj)) ++ [(h'.objs.size, go)] := hp
          simpa using hp
        subst hp
        exact hia (by rw [show h'.objs.size = b from z]; exact hb)⟩) T pg pt pe steps m (m + 1) 0 s0 s H4 (Nat.lt_succ_self m) w0 (Inv.woke I5 z) (by rw [z1]; exact st5) fun b hb => (f4 b hb).1.1
    refine quant_call stp (wpAny_pyIter_gen (hga _ ?_) ⟨h'.objs.size, Asleep (genCx X (genA X (gEnv X scope s4.heap.objs.size code)) s4 H4 (gEnv X scope s4.heap.objs.size code) fp) X.A.in1 [(h'.objs.size, go)] (wipe σ (own.map (·.2))) stp Q s4.gens.size, m + 1, rfl,
      ⟨H4, I5, _, Array.getElem?_push_size .., fun s' z => ⟨rfl, seg s' s' z⟩⟩, fun n s' hp => ?_⟩)
    · exact Heap.get?_push_size _ (by rw [← hgo]; rfl)
    · refine wpAny_mono (asleep_next (Y := genCx X (genA X (gEnv X scope s4.heap.objs.size code)) s4 H4 (gEnv X scope s4.heap.objs.size code) fp) (a := h'.objs.size) (go := go) (show X.A.in1.handled = none from hr.hd) (by have := hr.dp; show X.A.depth < _; omega) (List.mem_singleton.mpr rfl) hga hp) (fun r s'' hq => ?_) fun _ _ z => z
      have back : ∀ b : Bool, (∃ H', L2.Inv (genCx X (genA X (gEnv X scope s4.heap.objs.size code)) s4 H4 (gEnv X scope s4.heap.objs.size code) fp) [(h'.objs.size, go)] (wipe σ (own.map (·.2))) H' s'' ∧ Q (.bl b) H') → EP X pins σ Q (.bool b) s'' := fun b ⟨H', I', q'⟩ =>
        ⟨.bl b, H', I4.call' (ch := fp) I'.os I'.base I'.hok I'.bare fun c hc => ⟨(f2 c hc).2.2.2.1, (f2 c hc).2.1, (f2 c hc).2.2.2.2.1, (f2 c hc).2.2.2.2.2⟩, rfl, q'⟩
      cases r with
      | none => exact back _ hq
      | some v =>
        obtain ⟨k, e, hk⟩ := hq
        refine ⟨k, e, ?_⟩
        split
        · rename_i h1
          rw [if_pos h1] at hk
          exact back _ hk
        · rename_i h1
          rw [if_neg h1] at hk
          exact hk
  -- the code object: found, or made
  have cd : PySem.W.CodeHd s2.heap c P := TB.code.keeps I2.bk
  have bi : ∀ (s4 : Shared) (Q' : Addr → Shared → Prop), (∀ b o, b ≠ P → s2.heap.get? b = some o → s4.heap.get? b = some o) → Q' builtinsNs s4 → wpAny (model X.prog X.w) X.A (builtinsFor X.env.globals X.env.builtins) Q' X.xe s4 := fun s4 Q' hk hq => by
    obtain ⟨bm, ob, e1, e2, e3, e4, e5, e6, e7, e8⟩ := TB.bm
    refine wpAny_builtinsFor (m := X.mg) ?_ e1 e2 (hk _ _ e4 (I2.bk _ _ e5)) e6 e7 e8 hq
    rw [I2.ok.glob]
    exact (I2.mod.glob.keeps I2.bk).at' fun o e => hk _ o TB.gP e
  cases hf : codeAmong gpos ps.toList with
  | none =>
    refine wpAny_genexprCodeX hcode (cd.code hPs htr) (cd.tab hPs) hf fun c' h4 tk hx hge hlt hco' _ htab' _ => ?_
    obtain ⟨o1, vs, f1, tf, fl, tgt, inF, tx, tt', op, _, _, _, _, _, _, _, _, _, htr', _⟩ := hco'
    have I4 := GxR.inv_tab (more := #[rawInt gpos.line, rawInt gpos.col, .ref c']) (h' := h4) (g' := s2.gens) (d' := s2.drawn) (t' := tk) I2 hP (fun b o hb e => hx b o hb e) htab'.2 I2.bare
    refine bi _ _ (fun b o hb e => hx b o hb e) ?_
    exact cont (.ref c') _ _ ⟨⟨_, upd_same, htr'⟩, fun b hb => upd_ne hb⟩ I4 fun b o hb e => hx b o hb e
  | some cv =>
    refine wpAny_genexprCode_hit hcode (cd.code hPs htr) hf ?_
    refine bi _ _ (fun b o _ e => e) ?_
    exact cont cv H2 s2 ⟨⟨ps, hP, htr⟩, fun _ _ => rfl⟩ I2 fun b o _ e => e
end Dv

namespace Dv
open PySem PySem.Spec L2
/-! ### a block's slots -/
theorem wipe_in {σ : L2.St} {i : Nat} : ∀ {vs : List Nat}, i ∈ vs → (wipe σ vs)[i]? = none ∨ (wipe σ vs)[i]? = some none
  | [], h => by cases h
  | v :: vs, h => by
    unfold wipe
    by_cases e : v = i
    · subst e
      by_cases hl : v < (wipe σ vs).length
      · rw [List.getElem?_set_self hl]; exact .inr rfl
      · rw [List.getElem?_eq_none (by simpa using hl)]; exact .inl rfl
    · rw [List.getElem?_set_ne e]
      exact wipe_in (by
        rcases List.mem_cons.mp h with z | z
        · exact absurd z.symm e
        · exact z)
theorem wipeS_len (S : Sto) : ∀ vs : List Nat, (wipeS S vs).length = S.length
  | [] => rfl
  | v :: vs => by unfold wipeS; rw [List.length_set, wipeS_len S vs]
theorem wipeS_out {S : Sto} {i : Nat} : ∀ {vs : List Nat}, i ∉ vs → (wipeS S vs)[i]? = S[i]?
  | [], _ => rfl
  | v :: vs, h => by
    unfold wipeS
    rw [List.getElem?_set_ne (fun e => h (by simp [e]))]
    exact wipeS_out fun z => h (List.mem_cons_of_mem _ z)
theorem wipeS_in {S : Sto} {i : Nat} : ∀ {vs : List Nat}, i ∈ vs → (wipeS S vs)[i]? = none ∨ (wipeS S vs)[i]? = some .no
  | [], h => by cases h
  | v :: vs, h => by
    unfold wipeS
    by_cases e : v = i
    · subst e
      by_cases hl : v < (wipeS S vs).length
      · rw [List.getElem?_set_self hl]; exact .inr rfl
      · rw [List.getElem?_eq_none (by simpa using hl)]; exact .inl rfl
    · rw [List.getElem?_set_ne e]
      exact wipeS_in (by
        rcases List.mem_cons.mp h with z | z
        · exact absurd z.symm e
        · exact z)
theorem backS_len (S S' : Sto) : ∀ vs : List Nat, (backS S S' vs).length = S'.length
  | [] => rfl
  | v :: vs => by unfold backS; rw [List.length_set, backS_len S S' vs]
theorem backS_out {S S' : Sto} {i : Nat} : ∀ {vs : List Nat}, i ∉ vs → (backS S S' vs)[i]? = S'[i]?
  | [], _ => rfl
  | v :: vs, h => by
    unfold backS
    rw [List.getElem?_set_ne (fun e => h (by simp [e]))]
    exact backS_out fun z => h (List.mem_cons_of_mem _ z)
theorem backS_in {S S' : Sto} (hl : S'.length = S.length) {i : Nat} : ∀ {vs : List Nat}, i ∈ vs → (backS S S' vs)[i]? = S[i]?
  | [], h => by cases h
  | v :: vs, h => by
    unfold backS
    by_cases e : v = i
    · subst e
      by_cases hl2 : v < S.length
      · rw [List.getElem?_set_self (by rw [backS_len, hl]; exact hl2), List.getD_eq_getElem?_getD, List.getElem?_eq_getElem hl2]
        rfl
      · rw [List.getElem?_eq_none (by simp [backS_len, hl]; omega), List.getElem?_eq_none (by omega)]
    · rw [List.getElem?_set_ne e]
      exact backS_in hl (by
        rcases List.mem_cons.mp h with z | z
        · exact absurd z.symm e
        · exact z)
section
variable {K : PySem.W.Frag} {e : Ent} {Z Z' : Zn} {H H' : Hp} {σ σ' : L2.St} {S S' : Sto} {vs : List Nat}
theorem SR.wipe (s : SR K e Z H σ S) (h0 : ∀ a, e.M a → 0 ∉ vs) : SR K e Z H (L2.wipe σ vs) (wipeS S vs) where
  ln := by rw [wipeS_len, wipe_length]; exact s.ln
  fro := fun i d h => by
    by_cases hi : i ∈ vs
    · rcases wipeS_in (S := S) hi with q | q <;> rw [q] at h <;> cases h
    · rw [wipeS_out hi] at h
      rw [wipe_out hi]
      exact s.fro i d h
  own := fun i o h => by
    by_cases hi : i ∈ vs
    · rcases wipeS_in (S := S) hi with q | q <;> rw [q] at h <;> cases h
    · rw [wipeS_out hi] at h
      rw [wipe_out hi]
      exact s.own i o h
  sep := fun i j o o' a h1 h2 h3 h4 => by
    have hi : i ∉ vs := fun hi => by rcases wipeS_in (S := S) hi with q | q <;> rw [q] at h1 <;> cases h1
    have hj : j ∉ vs := fun hi => by rcases wipeS_in (S := S) hi with q | q <;> rw [q] at h2 <;> cases h2
    rw [wipeS_out hi] at h1
    rw [wipeS_out hj] at h2
    rw [wipe_out hi] at h3
    rw [wipe_out hj] at h4
    exact s.sep i j o o' a h1 h2 h3 h4
  zi := s.zi
  ze := s.ze
  st := s.st
  kp := s.kp
  mi := fun a m => by
    obtain ⟨h1, h2, h3, h4⟩ := s.mi a m
    exact ⟨h1, h2, h3, by rw [wipe_out (h0 a m)]; exact h4⟩
  pn := fun a o h => by
    obtain ⟨h1, h2, h3⟩ := s.pn a o h
    refine ⟨h1, h2, fun j o' hj => ?_⟩
    have hi : j ∉ vs := fun hi => by rcases wipeS_in (S := S) hi with q | q <;> rw [q] at hj <;> cases hj
    rw [wipeS_out hi] at hj
    rw [wipe_out hi]
    exact h3 j o' hj
  te := s.te
  tb := s.tb
theorem unOwned_at {S : Sto} (h : unOwned S vs = true) {i : Nat} (hi : i ∈ vs) (o : Ow) : S[i]? ≠ some (.own o) := fun q => by
  have := List.all_eq_true.mp h i hi
  rw [q] at this
  cases this
/-- out of a block -/
theorem SR.unwipe (s : SR K e Z H σ S) (s' : SR K e Z' H' (L2.wipe σ vs) S') (g : Step Z H Z' H') (hu : unOwned S vs = true) (h0 : ∀ a, e.M a → 0 ∉ vs) : SR K e Z' H' σ (backS S S' vs) := by
  have hl : S'.length = S.length := by rw [s'.ln, wipe_length, s.ln]
  have own_out : ∀ (i : Nat) o, (backS S S' vs)[i]? = some (.own o) → i ∉ vs ∧ S'[i]? = some (.own o) := fun i o h => by
    by_cases hi : i ∈ vs
    · rw [backS_in hl hi] at h
      exact absurd h (unOwned_at hu hi o)
    · rw [backS_out hi] at h
      exact ⟨hi, h⟩
  refine ⟨by rw [backS_len, hl]; exact s.ln, fun i d h => ?_, fun i o h => ?_, fun i j o o' a h1 h2 h3 h4 => ?_, s'.zi, s'.ze, s'.st, s'.kp, fun a m => ?_, fun a o h => ?_, s'.te, s'.tb⟩
  · by_cases hi : i ∈ vs
    · rw [backS_in hl hi] at h
      obtain ⟨v, h1, h2⟩ := s.fro i d h
      exact ⟨v, h1, R.step g h2⟩
    · rw [backS_out hi] at h
      obtain ⟨v, h1, h2⟩ := s'.fro i d h
      rw [wipe_out hi] at h1
      exact ⟨v, h1, h2⟩
  · obtain ⟨hi, h⟩ := own_out i o h
    have := s'.own i o h
    rw [wipe_out hi] at this
    exact this
  · obtain ⟨hi, h1⟩ := own_out i o h1
    obtain ⟨hj, h2⟩ := own_out j o' h2
    exact s'.sep i j o o' a h1 h2 (by rw [wipe_out hi]; exact h3) (by rw [wipe_out hj]; exact h4)
  · obtain ⟨h1, h2, h3, h4⟩ := s'.mi a m
    rw [wipe_out (h0 a m)] at h4
    exact ⟨h1, h2, h3, h4⟩
  · obtain ⟨h1, h2, h3⟩ := s'.pn a o h
    refine ⟨h1, h2, fun j o' hj => ?_⟩
    obtain ⟨hi, hj⟩ := own_out j o' hj
    have := h3 j o' hj
    rw [wipe_out hi] at this
    exact this
/-- an object that nobody touches meanwhile; a walked dict's own slot may look at it -/
def Ent.pin (e : Ent) (p : Addr) (o : HO) : Ent := { e with P := fun a => if a = p then some o else e.P a }
theorem SR.pin (s : SR K e Z H σ S) {p : Addr} {o : HO} (ht : ∀ ps, o ≠ .tbl ps) (hp : H p = some o) (nz : ¬ Z p) (nq : ∀ (j : Nat) o', S[j]? = some (.own o') → o'.isW = false → σ[j]? ≠ some (some (V.ref p))) : SR K (e.pin p o) Z H σ S where
  ln := s.ln
  fro := s.fro
  own := s.own
  sep := s.sep
  zi := s.zi
  ze := s.ze
  st := s.st
  kp := s.kp
  mi := s.mi
  pn := fun a u h => by
    have h : (if a = p then some o else e.P a) = some u := h
    by_cases q : a = p
    · subst q
      rw [if_pos rfl] at h
      cases h
      exact ⟨hp, nz, nq⟩
    · rw [if_neg q] at h
      exact s.pn a u h
  te := fun a t => by
    obtain ⟨h1, h2, h3, h4⟩ := s.te a t
    refine ⟨h1, h2, ?_, h4⟩
    show (if a = p then some o else e.P a) = none
    have q : a ≠ p := fun q => by
      obtain ⟨ps, e1, _⟩ := s.tb a t
      rw [q, hp] at e1
      exact ht ps (Option.some.inj e1)
    rw [if_neg q]
    exact h3
  tb := s.tb
theorem SR.unpin {p : Addr} {o : HO} (s : SR K (e.pin p o) Z H σ S) (hn : e.P p = none) : SR K e Z H σ S where
  ln := s.ln
  fro := s.fro
  own := s.own
  sep := s.sep
  zi := s.zi
  ze := s.ze
  st := s.st
  kp := s.kp
  mi := s.mi
  pn := fun a u h => s.pn a u (by
    show (if a = p then some o else e.P a) = some u
    rw [if_neg (fun q => by rw [q, hn] at h; cases h)]
    exact h)
  te := fun a t => by
    obtain ⟨h1, h2, h3, h4⟩ := s.te a t
    refine ⟨h1, h2, ?_, h4⟩
    have h3 : (if a = p then some o else e.P a) = none := h3
    by_cases q : a = p
    · rw [q]; exact hn
    · rw [if_neg q] at h3; exact h3
  tb := s.tb
theorem SR.pinned {p : Addr} {xs : List V} (s : SR K (e.pin p (.lst xs)) Z H σ S) : H p = some (.lst xs) ∧ ¬ Z p ∧ ∀ (j : Nat) o', S[j]? = some (.own o') → σ[j]? ≠ some (some (V.ref p)) := by
  obtain ⟨h1, h2, h3⟩ := s.pn p _ (if_pos rfl)
  refine ⟨h1, h2, fun j o' hj => ?_⟩
  cases q : o'.isW with
  | false => exact h3 j o' hj q
  | true =>
    intro hs
    obtain ⟨a, e1, _, e2, _⟩ := s.own j o' hj
    rw [hs] at e1
    cases e1
    cases o' with
    | dctw kvs => rcases e2 with ⟨o, es, z, _⟩ | ⟨o, es, z, _⟩ <;> (rw [h1] at z; cases z)
    | _ => cases q
theorem wipe_same (hl : σ'.length = σ.length) (h : ∀ j, j ∉ vs → σ'[j]? = σ[j]?) : L2.wipe σ' vs = L2.wipe σ vs := by
  apply List.ext_getElem?
  intro j
  by_cases hj : j ∈ vs
  · have a1 := wipe_in (σ := σ') hj
    have a2 := wipe_in (σ := σ) hj
    have l1 := wipe_length σ' vs
    have l2 := wipe_length σ vs
    by_cases hlt : j < σ.length
    · have b1 : (L2.wipe σ' vs)[j]? ≠ none := by rw [Ne, List.getElem?_eq_none_iff]; omega
      have b2 : (L2.wipe σ vs)[j]? ≠ none := by rw [Ne, List.getElem?_eq_none_iff]; omega
      rcases a1 with q | q
      · exact absurd q b1
      · rcases a2 with q2 | q2
        · exact absurd q2 b2
        · rw [q, q2]
    · rw [List.getElem?_eq_none (by omega), List.getElem?_eq_none (by omega)]
  · rw [wipe_out hj, wipe_out hj]
    exact h j hj
theorem wipe_wipe : L2.wipe (L2.wipe σ vs) vs = L2.wipe σ vs := wipe_same (wipe_length σ vs) fun j hj => wipe_out hj
end

/-! ### comprehensions -/
abbrev W0 : WX := fun _ _ _ _ => False
section
variable {st : Sta} {sc : Scope} {c : Cfg} {e : Ent} {W : WX} {X : Cx}
/-- a block's reading: whatever is pinned meanwhile -/
def exE (K : PySem.W.Frag) (mg : Str → Option Value) (W : WX) (M : Zn) (T : Tz) (f : Sto → Res D) : TE := fun σ H Q => ∃ e : Ent, (e.M = M ∧ e.T = T) ∧ tE K mg W e f σ H Q
def exB (K : PySem.W.Frag) (mg : Str → Option Value) (W : WX) (M : Zn) (T : Tz) (f : Sto → Res Bool) : TT := fun σ H Q => ∃ e : Ent, (e.M = M ∧ e.T = T) ∧ tB K mg W e f σ H Q
/-- a wish that is fixed where the block begins -/
abbrev Wat (W : WX) (σ : L2.St) : WX := fun cls d _ H => W cls d σ H
def exG (K : PySem.W.Frag) (M : Zn) (T : Tz) (slots : List Nat) (b : D → Sto → Option Sto) : TG := fun v σ H Q => ∃ e : Ent, (e.M = M ∧ e.T = T) ∧ tGt K e slots b v σ H Q
/-- a comprehension whose iterator stands ready -/
abbrev tTurns (J : It) (H1 : Hp) : TI := fun _ _ G => G J H1
theorem lc_walk {vs slots : List Nat} {bnd : D → Sto → Option Sto} {ft : Sto → Res Bool} {fe : Sto → Res D} (hsl : ∀ i ∈ slots, i ∈ vs) {J : It} {ds : List D} {Z1 : Zn} {H1 : Hp} {σ : L2.St} {S1 : Sto} (s1 : SR X.K e Z1 H1 σ S1) (hu : unOwned S1 vs = true) (h0 : ∀ a, e.M a → 0 ∉ vs) {Q : VK}
    (go : ∀ Dl, H1 Dl = none → ∀ i Z2 H2 S2 accV, Step Z1 H1 Z2 H2 → SR X.K (e.pin Dl (.lst accV)) Z2 H2 (L2.wipe σ vs) S2 → i < ds.length → J.go i H2)
    (yld : ∀ i Z2 H2 x H3, Step Z1 H1 Z2 H2 → (∀ a, Z2 a → H2 a ≠ none) → i < ds.length → J.yld i H2 x H3 → ∃ d Z3, ds[i]? = some d ∧ Grow Z2 H2 Z3 H3 ∧ R X.K Z3 H3 x d)
    (stop : ∀ Dl, H1 Dl = none → ∀ Z2 H2 S2 accV, Step Z1 H1 Z2 H2 → SR X.K (e.pin Dl (.lst accV)) Z2 H2 (L2.wipe σ vs) S2 → J.stop ds.length H2)
    (h1 : Aft X.K X.mg W e Z1 H1 σ (((lcL vs bnd ft fe ds [] (wipeS S1 vs)).onX fun S2 => backS S1 (wipeS S2 vs) vs).bind fun ys S2 => .ok (.lst ys) (backS S1 S2 vs)) (RelF X.K e σ) Q) :
    tLc (tTurns J H1) (exG X.K e.M e.T slots bnd) (exB X.K X.mg (Wat W σ) e.M e.T ft) (exE X.K X.mg (Wat W σ) e.M e.T fe) vs σ H1 Q := by
  intro Dl hD
  replace go := go Dl hD
  replace stop := stop Dl hD
  have nz1 : ¬ Z1 Dl := fun z => s1.zi Dl z hD
  have eP : e.P Dl = none := s1.newP hD
  have eH : e.H Dl = none := s1.new hD
  generalize hr0 : lcL vs bnd ft fe ds [] (wipeS S1 vs) = r0 at h1
  have out_exc : ∀ {xx : Xc} {S' : Sto} {σ2 : L2.St} {accV : List V} {cls : Value} {dd : Option Addr} {Z4 : Zn} {H4 : Hp}, Step Z1 H1 Z4 H4 → SR X.K (e.pin Dl (.lst accV)) Z4 H4 σ2 S' → L2.wipe σ2 vs = L2.wipe σ vs →
      Aft X.K X.mg W e Z1 H1 σ (((Res.exc xx S' : Res (List D)).onX fun S2 => backS S1 (wipeS S2 vs) vs).bind fun ys S2 => .ok (Ow.lst ys) (backS S1 S2 vs)) (RelF X.K e σ) Q → RX X.K X.mg Z4 H4 cls dd xx → W cls dd σ H4 := fun {xx S' σ2 accV cls dd Z4 H4} st4 s4 hw h1 rx => by
    have s5 := (s4.unpin eP).wipe h0
    rw [hw] at s5
    exact h1 cls dd Z4 H4 st4 (s1.unwipe s5 st4 hu h0) rx
  -- where turn i begins
  refine ⟨fun i m H2 => ∃ Z2 S2 acc accV, m = ds.length - i ∧ i ≤ ds.length ∧ Step Z1 H1 Z2 H2 ∧ SR X.K (e.pin Dl (.lst accV)) Z2 H2 (L2.wipe σ vs) S2 ∧ Rs X.K Z2 H2 accV acc ∧ lcL vs bnd ft fe (ds.drop i) acc S2 = r0, ?_, ?_⟩
  · obtain ⟨g, rf⟩ := relF_new (e := e) s1 hD (.nil : Rs X.K Z1 H1 [] [])
    have s2 := s1.grow g
    have s3 : SR X.K (e.pin Dl (.lst [])) Z1 (upd H1 Dl (.lst [])) σ S1 := s2.pin (fun ps q => nomatch q) upd_same nz1 fun j o' hj _ hs => by
      obtain ⟨a, q1, _, q3, _⟩ := s1.own j o' hj
      rw [q1] at hs
      cases hs
      exact q3.there hD
    exact ⟨ds.length, Z1, wipeS S1 vs, [], [], rfl, Nat.zero_le _, g.step, s3.wipe h0, .nil, by rw [List.drop_zero]; exact hr0⟩
  · rintro i m H2 ⟨Z2, S2, acc, accV, rfl, hi', st2, s2, ra, hrun⟩
    have pin2 := s2.pinned
    by_cases hlt : i < ds.length
    · right
      refine ⟨go i Z2 H2 S2 accV st2 s2 hlt, fun H' => ∃ m', m' < ds.length - i ∧ ∃ Z2 S2 acc accV, m' = ds.length - (i + 1) ∧ i + 1 ≤ ds.length ∧ Step Z1 H1 Z2 H' ∧ SR X.K (e.pin Dl (.lst accV)) Z2 H' (L2.wipe σ vs) S2 ∧ Rs X.K Z2 H' accV acc ∧ lcL vs bnd ft fe (ds.drop (i + 1)) acc S2 = r0,
        fun H' h => h, fun x H3 hy => ?_⟩
      obtain ⟨d, Z3, hd, gr, rx⟩ := yld i Z2 H2 x H3 st2 s2.zi hlt hy
      have hdrop : ds.drop i = d :: ds.drop (i + 1) := by
        rw [List.drop_eq_getElem_cons hlt]
        rw [List.getElem?_eq_getElem hlt] at hd
        cases hd
        rfl
      rw [hdrop] at hrun
      unfold lcL at hrun
      cases hbn : bnd d S2 with
      | none => rw [hbn] at hrun; dsimp only at hrun; rw [← hrun] at h1; exact h1.elim
      | some S3 =>
        rw [hbn] at hrun
        dsimp only at hrun
        refine ⟨e.pin Dl (.lst accV), ⟨rfl, rfl⟩, Z3, S2, d, S3, s2.grow gr, rx, hbn, fun σ2 s3 out => ?_⟩
        have hw : L2.wipe σ2 vs = L2.wipe (L2.wipe σ vs) vs := wipe_same out.1 fun j hj => out.2 j fun z => hj (hsl j z)
        rw [wipe_wipe] at hw
        refine ⟨hw, ?_⟩
        cases hft : ft S3 with
        | bad => rw [hft] at hrun; rw [← hrun] at h1; exact h1.elim
        | exc xx S' =>
          rw [hft] at hrun
          rw [← hrun] at h1
          refine ⟨e.pin Dl (.lst accV), ⟨rfl, rfl⟩, Z3, S3, s3, ?_⟩
          rw [hft]
          intro cls dd Z4 H4 st4 s4 rx
          exact out_exc (st2.trans (gr.step.trans st4)) s4 hw h1 rx
        | ok b S4 =>
          rw [hft] at hrun
          have hrun : (if b then (fe S4).bind fun y S3 => if acc.length < sizeLine then lcL vs bnd ft fe (ds.drop (i + 1)) (acc ++ [y]) (wipeS S3 vs) else .bad else lcL vs bnd ft fe (ds.drop (i + 1)) acc (wipeS S4 vs)) = r0 := hrun
          refine ⟨e.pin Dl (.lst accV), ⟨rfl, rfl⟩, Z3, S3, s3, ?_⟩
          rw [hft]
          intro k Z4 H4 st4 s4 hk
          have hk : k = b := hk
          subst hk
          have st14 : Step Z1 H1 Z4 H4 := st2.trans (gr.step.trans st4)
          cases k with
          | false =>
            rw [if_neg Bool.false_ne_true] at hrun
            rw [if_neg Bool.false_ne_true]
            refine ⟨_, by omega, Z4, wipeS S4 vs, acc, accV, rfl, hlt, st14, ?_, Rs.step (gr.step.trans st4) ra, hrun⟩
            rw [← hw]
            exact s4.wipe h0
          | true =>
            rw [if_pos rfl] at hrun
            rw [if_pos rfl]
            cases hfe : fe S4 with
            | bad => rw [hfe] at hrun; rw [← hrun] at h1; exact h1.elim
            | exc xx S' =>
              rw [hfe] at hrun
              rw [← hrun] at h1
              refine ⟨e.pin Dl (.lst accV), ⟨rfl, rfl⟩, Z4, S4, s4, ?_⟩
              rw [hfe]
              intro cls dd Z5 H5 st5 s5 rx
              exact out_exc (st14.trans st5) s5 hw h1 rx
            | ok y S5 =>
              rw [hfe] at hrun
              have hrun : (if acc.length < sizeLine then lcL vs bnd ft fe (ds.drop (i + 1)) (acc ++ [y]) (wipeS S5 vs) else .bad) = r0 := hrun
              split at hrun
              case isFalse => rw [← hrun] at h1; exact h1.elim
              rename_i hsz
              refine ⟨e.pin Dl (.lst accV), ⟨rfl, rfl⟩, Z4, S4, s4, ?_⟩
              rw [hfe]
              intro yv Z5 H5 st5 s5 ry
              have pin5 := s5.pinned
              have rs5 : Rs X.K Z5 H5 accV acc := Rs.step (gr.step.trans (st4.trans st5)) ra
              refine ⟨accV, pin5.1, by rw [rs5.length]; exact hsz, ds.length - (i + 1), by omega, Z5, wipeS S5 vs, acc ++ [y], accV ++ [yv], rfl, hlt, ?_, ?_, ?_, hrun⟩
              · refine (st14.trans st5).trans ⟨fun _ h => h, fun a o hz ha => ?_⟩
                rw [upd_ne (show a ≠ Dl from fun q => pin5.2.1 (by rw [← q]; exact hz))]
                exact ha
              · rw [← hw]
                have s6 := (s5.unpin eP).wipe h0
                have ch : Chg e.T (fun b => b = Dl) Z5 H5 Z5 (upd H5 Dl (.lst (accV ++ [yv]))) := ⟨fun _ h => h, fun _ h => .inl h, fun a o ha hn _ => by rw [upd_ne hn]; exact ha, fun a hz q => by
                    by_cases q1 : a = Dl
                    · exact pin5.2.1 (q1 ▸ hz)
                    · rw [upd_ne q1] at q; exact s5.zi a hz q, fun a ha q => by
                    by_cases q1 : a = Dl
                    · subst q1; rw [upd_same] at q; cases q
                    · rw [upd_ne q1] at q; exact ha q, fun a ha => by have ha : a = Dl := ha; rw [ha]; exact pin5.2.1, s5.tz, fun a t => by
                    exact (s5.tb a t).keep fun b o e1 nl => by
                      rw [upd_ne (fun q => by rw [q, pin5.1] at e1; cases e1; exact nl.1 _ rfl)]
                      exact e1⟩
                have nq : ∀ (j : Nat) o', (wipeS S5 vs)[j]? = some (.own o') → (L2.wipe σ2 vs)[j]? ≠ some (some (V.ref Dl)) := fun j o' hj => ((s5.wipe h0).pinned).2.2 j o' hj
                have s7 : SR X.K e Z5 (upd H5 Dl (.lst (accV ++ [yv]))) (L2.wipe σ2 vs) (wipeS S5 vs) := s6.chg ch (fun a ha j o' hj hs => by
                    have ha : a = Dl := ha
                    subst ha
                    exact nq j o' hj hs) (fun a ha => by have ha : a = Dl := ha; rw [ha]; exact .inl eH) fun a ha => by have ha : a = Dl := ha; rw [ha]; exact eP
                exact s7.pin (fun ps q => nomatch q) upd_same pin5.2.1 fun j o' hj _ => nq j o' hj
              · have k5 : Step Z5 H5 Z5 (upd H5 Dl (.lst (accV ++ [yv]))) := ⟨fun _ h => h, fun a o hz ha => by rw [upd_ne (show a ≠ Dl from fun q => pin5.2.1 (by rw [← q]; exact hz))]; exact ha⟩
                exact Pd.append (Rs.step k5 rs5) (.cons (R.step k5 ry) .nil)
    · left
      have ei : i = ds.length := by omega
      subst ei
      refine ⟨stop Z2 H2 S2 accV st2 s2, ?_⟩
      rw [List.drop_length] at hrun
      unfold lcL at hrun
      rw [← hrun] at h1
      have s3 : SR X.K e Z2 H2 (L2.wipe σ vs) S2 := s2.unpin eP
      have s4 := s1.unwipe s3 st2 hu h0
      have hl : S2.length = S1.length := by rw [s3.ln, wipe_length, s1.ln]
      refine h1 _ Z2 H2 st2 s4 ⟨Dl, rfl, pin2.2.1, ⟨accV, pin2.1, ra⟩, eH, fun j o' hj hs => ?_, eP⟩
      by_cases hj2 : j ∈ vs
      · rw [backS_in hl hj2] at hj
        exact unOwned_at hu hj2 o' hj
      · rw [backS_out hj2] at hj
        have := pin2.2.2 j o' hj
        rw [wipe_out hj2] at this
        exact this hs
theorem d_lc (ok : CxOk st sc c e W X) {own : List (Str × Nat)} {slots : List Nat} {fi : Sto → Res (List D)} {bnd : D → Sto → Option Sto} {ft : Sto → Res Bool} {fe : Sto → Res D} (hsl : ∀ i ∈ slots, i ∈ own.map (·.2)) :
    ∀ σ H Q, tF X.K X.mg W e (fun S => (fi S).bind fun ds S1 => if unOwned S1 (own.map (·.2)) && !(c.io && (own.map (·.2)).contains 0) then
      ((lcL (own.map (·.2)) bnd ft fe ds [] (wipeS S1 (own.map (·.2)))).onX fun S2 => backS S1 (wipeS S2 (own.map (·.2))) (own.map (·.2))).bind fun ys S2 => .ok (.lst ys) (backS S1 S2 (own.map (·.2))) else .bad) σ H Q →
    tLc (tI X.K X.mg W e fi) (exG X.K e.M e.T slots bnd) (exB X.K X.mg (Wat W σ) e.M e.T ft) (exE X.K X.mg (Wat W σ) e.M e.T fe) (own.map (·.2)) σ H Q := by
  generalize hvs : own.map (·.2) = vs at *
  intro σ H Q ⟨Z, S, s, h⟩
  refine ⟨Z, S, s, (Aft.bind (Rel := RelW X.K) h).mono fun J H1 ⟨Z1, ds, S1, _, st1, s1, wk, h1⟩ => fun Dl hD => ?_⟩
  split at h1
  case isFalse => exact h1.elim
  rename_i hc
  rw [Bool.and_eq_true] at hc
  obtain ⟨hu, hio⟩ := hc
  have h0 : ∀ a, e.M a → 0 ∉ vs := fun a m z => by
    cases q : c.io with
    | false => exact ok.io q a m
    | true => rw [q] at hio; simp [z] at hio
  exact lc_walk (J := J) hsl s1 hu h0 (fun _ _ i Z2 H2 _ _ st2 _ hlt => wk.go i Z2 H2 st2 hlt) (fun i Z2 H2 x H3 st2 zi hlt hy => wk.yld i Z2 H2 x H3 st2 zi hlt hy) (fun _ _ Z2 H2 _ _ st2 _ => wk.stop Z2 H2 st2) h1 Dl hD
/-! ### any, all of a generator expression -/
theorem qntL_nil {vs : List Nat} {bind : D → Sto → Option Sto} {test : Sto → Res Bool} {elt : Sto → Res D} {stp : Bool} {S : Sto} : qntL vs bind test elt stp [] S = .ok (!stp) S := rfl
theorem d_qnt (ok : CxOk st sc c e W X) {own : List (Str × Nat)} {slots : List Nat} {P : Addr} {fi : Sto → Res (List D)} {bnd : D → Sto → Option Sto} {ft : Sto → Res Bool} {fe : Sto → Res D} {stp : Bool} (hT : e.T P) (hq : e.T.q P = none)
    (hsl : ∀ i ∈ slots, i ∈ own.map (·.2)) :
    ∀ σ H Q, tE X.K X.mg W e (fun S => (fi S).bind fun ds S1 => if unOwned S1 (own.map (·.2)) && !(c.io && (own.map (·.2)).contains 0) then
      ((qntL (own.map (·.2)) bnd ft fe stp ds (wipeS S1 (own.map (·.2)))).quiet).bind fun k S2 => .ok (.bool k) (backS S1 S2 (own.map (·.2))) else .bad) σ H Q →
    tQuant P stp (tI X.K X.mg W e fi) (exG X.K e.M e.T slots bnd) (exB X.K X.mg W0 e.M e.T ft) (exE X.K X.mg W0 e.M e.T fe) (own.map (·.2)) σ H Q := by
  generalize hvs : own.map (·.2) = vs at *
  intro σ H Q ⟨Z, S, s, h⟩
  refine ⟨Z, S, s, (Aft.bind (Rel := RelW X.K) h).mono fun J H0 ⟨Z1, ds, S1, _, st0, s0, wk, h1⟩ => ⟨(let ⟨ps, e1, t1, _⟩ := s0.tb P hT; ⟨ps, e1, t1⟩), fun H1 hTb => ?_⟩⟩
  split at h1
  case isFalse => exact h1.elim
  rename_i hc
  rw [Bool.and_eq_true] at hc
  obtain ⟨hu, hio⟩ := hc
  have h0 : ∀ a, e.M a → 0 ∉ vs := fun a m z => by
    cases q : c.io with
    | false => exact ok.io q a m
    | true => rw [q] at hio; simp [z] at hio
  -- the table has grown
  have ch : Chg e.T (fun _ => False) Z1 H0 Z1 H1 := ⟨fun _ h => h, fun _ h => .inl h, fun a o ha _ nt => by rw [hTb.2 a (fun q => nt (q ▸ hT))]; exact ha, fun a hz q => by
      rw [hTb.2 a (fun q => s0.tz P hT (q ▸ hz))] at q
      exact s0.zi a hz q, fun a ha q => by
      by_cases hp : a = P
      · obtain ⟨ps, e1, _⟩ := hTb.1
        rw [hp, e1] at q; cases q
      · rw [hTb.2 a hp] at q; exact ha q, fun _ h => h.elim, s0.tz, fun a t => by
      by_cases hp : a = P
      · obtain ⟨ps, e1, e2⟩ := hTb.1
        rw [hp]
        exact ⟨ps, e1, e2, fun q z => by rw [hq] at z; cases z⟩
      · obtain ⟨ps, e1, e2, e3⟩ := s0.tb a t
        obtain ⟨ps0, f1, _⟩ := s0.tb P hT
        exact ⟨ps, by rw [hTb.2 a hp]; exact e1, e2, fun q z pos cv hc => by
          obtain ⟨c, g1, g2⟩ := e3 q z pos cv hc
          refine ⟨c, g1, ?_⟩
          rw [hTb.2 c fun w => by rw [w, f1] at g2; exact LamX.codeO_ne _ (Option.some.inj g2).symm]
          exact g2⟩⟩
  have s1 : SR X.K e Z1 H1 σ S1 := s0.chg ch (fun _ h => h.elim) (fun _ h => h.elim) fun _ h => h.elim
  have st1 : Step Z1 H0 Z1 H1 := ch.step
  have h1 := Aft.step st1 h1
  generalize hr0 : qntL vs bnd ft fe stp ds (wipeS S1 vs) = r0 at h1
  have fin : ∀ {k : Bool} {Z2 : Zn} {H2 : Hp} {S2 : Sto}, r0 = .ok k S2 → Step Z1 H1 Z2 H2 → SR X.K e Z2 H2 (L2.wipe σ vs) S2 → Q (V.bl k) H2 := fun {k Z2 H2 S2} er st2 s2 => by
    rw [er] at h1
    exact h1 _ Z2 H2 st2 (s1.unwipe s2 st2 hu h0) (.bl k)
  refine ⟨fun i m H2 => ∃ Z2 S2, m = ds.length - i ∧ i ≤ ds.length ∧ Step Z1 H1 Z2 H2 ∧ SR X.K e Z2 H2 (L2.wipe σ vs) S2 ∧ qntL vs bnd ft fe stp (ds.drop i) S2 = r0, ⟨ds.length, Z1, wipeS S1 vs, rfl, Nat.zero_le _, .refl, s1.wipe h0, by rw [List.drop_zero]; exact hr0⟩, ?_⟩
  rintro i m H2 ⟨Z2, S2, rfl, hi', st2, s2, hrun⟩
  by_cases hlt : i < ds.length
  · right
    refine ⟨wk.go i Z2 H2 (st1.trans st2) hlt, fun H' => ∃ m', m' < ds.length - i ∧ ∃ Z2 S2, m' = ds.length - (i + 1) ∧ i + 1 ≤ ds.length ∧ Step Z1 H1 Z2 H' ∧ SR X.K e Z2 H' (L2.wipe σ vs) S2 ∧ qntL vs bnd ft fe stp (ds.drop (i + 1)) S2 = r0, fun H' h => h, fun x H3 hy => ?_⟩
    obtain ⟨d, Z3, hd, gr, rx⟩ := wk.yld i Z2 H2 x H3 (st1.trans st2) s2.zi hlt hy
    have hdrop : ds.drop i = d :: ds.drop (i + 1) := by
      rw [List.drop_eq_getElem_cons hlt]
      rw [List.getElem?_eq_getElem hlt] at hd
      cases hd
      rfl
    rw [hdrop] at hrun
    unfold qntL at hrun
    cases hbn : bnd d S2 with
    | none => rw [hbn] at hrun; dsimp only at hrun; rw [← hrun] at h1; exact h1.elim
    | some S3 =>
      rw [hbn] at hrun
      dsimp only at hrun
      refine ⟨e, ⟨rfl, rfl⟩, Z3, S2, d, S3, s2.grow gr, rx, hbn, fun σ2 s3 out => ?_⟩
      have hw : L2.wipe σ2 vs = L2.wipe (L2.wipe σ vs) vs := wipe_same out.1 fun j hj => out.2 j fun z => hj (hsl j z)
      rw [wipe_wipe] at hw
      refine ⟨hw, ?_⟩
      cases hft : ft S3 with
      | bad => rw [hft] at hrun; rw [← hrun] at h1; exact h1.elim
      | exc xx S' => rw [hft] at hrun; rw [← hrun] at h1; exact h1.elim
      | ok b S4 =>
        rw [hft] at hrun
        have hrun : (if b then (fe S4).bind fun y S3 => match asBool y with
            | some k => if k = stp then .ok stp (wipeS S3 vs) else qntL vs bnd ft fe stp (ds.drop (i + 1)) (wipeS S3 vs)
            | none => .bad
          else qntL vs bnd ft fe stp (ds.drop (i + 1)) (wipeS S4 vs)) = r0 := hrun
        refine ⟨e, ⟨rfl, rfl⟩, Z3, S3, s3, ?_⟩
        rw [hft]
        intro k Z4 H4 st4 s4 hk
        have hk : k = b := hk
        subst hk
        have st14 : Step Z1 H1 Z4 H4 := st2.trans (gr.step.trans st4)
        cases k with
        | false =>
          rw [if_neg Bool.false_ne_true] at hrun
          rw [if_neg Bool.false_ne_true]
          refine ⟨_, by omega, Z4, wipeS S4 vs, rfl, hlt, st14, ?_, hrun⟩
          rw [← hw]
          exact s4.wipe h0
        | true =>
          rw [if_pos rfl] at hrun
          rw [if_pos rfl]
          cases hfe : fe S4 with
          | bad => rw [hfe] at hrun; rw [← hrun] at h1; exact h1.elim
          | exc xx S' => rw [hfe] at hrun; rw [← hrun] at h1; exact h1.elim
          | ok y S5 =>
            rw [hfe] at hrun
            have hrun : (match asBool y with
              | some k => if k = stp then Res.ok stp (wipeS S5 vs) else qntL vs bnd ft fe stp (ds.drop (i + 1)) (wipeS S5 vs)
              | none => .bad) = r0 := hrun
            refine ⟨e, ⟨rfl, rfl⟩, Z4, S4, s4, ?_⟩
            rw [hfe]
            intro yv Z5 H5 st5 s5 ry
            have st15 := st14.trans st5
            have s6 : SR X.K e Z5 H5 (L2.wipe σ vs) (wipeS S5 vs) := by rw [← hw]; exact s5.wipe h0
            cases hb : asBool y with
            | none => rw [hb] at hrun; dsimp only at hrun; rw [← hrun] at h1; exact h1.elim
            | some k =>
              rw [hb] at hrun
              dsimp only at hrun
              rw [asBool_some hb] at ry
              refine ⟨k, ry.bl_inv, ?_⟩
              split at hrun
              · rename_i hk
                rw [if_pos hk]
                exact fin hrun.symm st15 s6
              · rename_i hk
                rw [if_neg hk]
                exact ⟨_, by omega, Z5, wipeS S5 vs, rfl, hlt, st15, s6, hrun⟩
  · left
    have ei : i = ds.length := by omega
    subst ei
    refine ⟨wk.stop Z2 H2 (st1.trans st2), ?_⟩
    rw [List.drop_length] at hrun
    exact fin hrun.symm st2 s2
end
end Dv

/-! A comprehension of two fors. -/
namespace Dv
open PySem PySem.Spec L2
def exI (K : PySem.W.Frag) (mg : Str → Option Value) (W : WX) (M : Zn) (T : Tz) (f : Sto → Res (List D)) : TI := fun σ H G => ∃ e : Ent, (e.M = M ∧ e.T = T) ∧ tI K mg W e f σ H G
section
variable {st : Sta} {sc : Scope} {c : Cfg} {e : Ent} {W : WX} {X : Cx}
/-- the block of two fors lets no exception out -/
theorem blk0_ok {st : Sta} {sc : Scope} {c : Cfg} {e e' : Ent} {W : WX} {X : Cx} (ok : CxOk st sc c e W X) (he : e'.M = e.M ∧ e'.T = e.T) {s : Shared} {H : Hp} {scope : Scope} {C : Addr} {cl : List (Str × Addr)} {fp : List Addr} :
    CxOk st (relS scope sc) c e' W0 (X.blk s H scope (compEnvC scope cl C X.env) fp) where
  calm := ok.calm
  nd := ok.nd
  N := ok.N
  sc := by rw [← ok.sc]; rfl
  room := ok.room
  tab := fun h => by
    obtain ⟨h1, cd, P, h2, h3, h4, h5⟩ := ok.tab h
    exact ⟨h1, cd, P, h2, h3, by rw [he.2]; exact h4, by rw [he.2]; exact h5⟩
  fns := by rw [he.2]; exact ok.fns
  cmg := by rw [he.2]; exact ok.cmg
  cw := by rw [he.2]; exact ok.cw
  cl := ok.cl
  bl := ok.bl
  con := ok.con
  io := fun h a m => ok.io h a (by rw [← he.1]; exact m)
  lx := .inl fun _ _ _ _ h => h
variable {K : PySem.W.Frag} {mg : Str → Option Value}
/-- one datum more behind a pinned list -/
theorem SR.more {Z : Zn} {H : Hp} {σ : L2.St} {S : Sto} {Dl : Addr} {accV : List V} {acc : List D} {yv : V} {y : D} (eP : e.P Dl = none) (eH : e.H Dl = none) (s : SR K (e.pin Dl (.lst accV)) Z H σ S) (ra : Rs K Z H accV acc) (ry : R K Z H yv y) :
    Step Z H Z (upd H Dl (.lst (accV ++ [yv]))) ∧ SR K (e.pin Dl (.lst (accV ++ [yv]))) Z (upd H Dl (.lst (accV ++ [yv]))) σ S ∧ Rs K Z (upd H Dl (.lst (accV ++ [yv]))) (accV ++ [yv]) (acc ++ [y]) := by
  obtain ⟨p1, p2, p3⟩ := s.pinned
  have other : ∀ a o, a ≠ Dl → H a = some o → (upd H Dl (.lst (accV ++ [yv]))) a = some o := fun a o n h => (upd_ne n).trans h
  have k : Step Z H Z (upd H Dl (.lst (accV ++ [yv]))) := ⟨fun _ h => h, fun a o hz ha => other a o (fun q => p2 (q ▸ hz)) ha⟩
  have ch : Chg e.T (fun b => b = Dl) Z H Z (upd H Dl (.lst (accV ++ [yv]))) := {
    z := fun _ h => h
    n := fun _ h => .inl h
    h := fun a o ha hn _ => other a o hn ha
    i := fun a hz q => s.zi a hz ((upd_ne (show a ≠ Dl from fun q1 => p2 (q1 ▸ hz))).symm.trans q)
    t := fun a ha q => by
      by_cases q1 : a = Dl
      · subst q1; rw [upd_same] at q; cases q
      · exact ha ((upd_ne q1).symm.trans q)
    m := fun a ha => by have ha : a = Dl := ha; rw [ha]; exact p2
    tz := s.tz
    tg := fun a t => (s.tb a t).keep fun b o e1 nl => other b o (fun q => by rw [q, p1] at e1; cases e1; exact nl.1 _ rfl) e1 }
  have s1 : SR K e Z (upd H Dl (.lst (accV ++ [yv]))) σ S := (s.unpin eP).chg ch (fun a ha j o' hj hs => by
      have ha : a = Dl := ha
      subst ha
      exact p3 j o' hj hs) (fun a ha => by have ha : a = Dl := ha; rw [ha]; exact .inl eH) fun a ha => by have ha : a = Dl := ha; rw [ha]; exact eP
  exact ⟨k, s1.pin (fun ps q => nomatch q) upd_same p2 fun j o' hj _ => p3 j o' hj, Pd.append (Rs.step k ra) (.cons (R.step k ry) .nil)⟩
/-- the inner loop -/
theorem lc2_in {vs1 : List Nat} {b1 : D → Sto → Option Sto} {fe : Sto → Res D} {J : It} {es acc acc' : List D} {Zb : Zn} {Hb : Hp} {σ2 : L2.St} {S2 S' : Sto} {accV : List V} {Dl : Addr} (eP : e.P Dl = none) (eH : e.H Dl = none) (h01 : ∀ a, e.M a → 0 ∉ vs1)
    (wk : Wk K J Zb Hb es) (s2 : SR K (e.pin Dl (.lst accV)) Zb Hb σ2 S2) (ra : Rs K Zb Hb accV acc) (hr : lcL vs1 b1 (fun S => .ok true S) fe es acc (wipeS S2 vs1) = .ok acc' S') {Nx : Hp → Prop}
    (fin : ∀ Z' H' accV', Step Zb Hb Z' H' → SR K (e.pin Dl (.lst accV')) Z' H' (L2.wipe σ2 vs1) S' → Rs K Z' H' accV' acc' → Nx H') :
    ∃ W1 : Nat → Nat → Hp → Prop, (∃ m, W1 0 m Hb) ∧ ∀ j k H, W1 j k H →
      (J.stop j H ∧ Nx H) ∨ (J.go j H ∧ ∃ Nx1 : Hp → Prop, (∀ H', Nx1 H' → ∃ k', k' < k ∧ W1 (j + 1) k' H') ∧ ∀ x H', J.yld j H x H' → exG K e.M e.T vs1 b1 x (L2.wipe σ2 vs1) H' fun σ3 H5 => L2.wipe σ3 vs1 = L2.wipe σ2 vs1 ∧ tYes σ3 H5 fun b H6 =>
        if b = true then exE K mg W0 e.M e.T fe σ3 H6 fun y H7 => ∃ acc, H7 Dl = some (.lst acc) ∧ acc.length < sizeLine ∧ Nx1 (upd H7 Dl (.lst (acc ++ [y]))) else Nx1 H6) := by
  refine ⟨fun i m H => ∃ Z S a aV, m = es.length - i ∧ i ≤ es.length ∧ Step Zb Hb Z H ∧ SR K (e.pin Dl (.lst aV)) Z H (L2.wipe σ2 vs1) S ∧ Rs K Z H aV a ∧ lcL vs1 b1 (fun S => .ok true S) fe (es.drop i) a S = .ok acc' S',
    ⟨es.length, Zb, wipeS S2 vs1, acc, accV, rfl, Nat.zero_le _, .refl, s2.wipe h01, ra, by rw [List.drop_zero]; exact hr⟩, ?_⟩
  rintro i m H ⟨Z, S, a, aV, rfl, hi, stp, s, r, run⟩
  by_cases hlt : i < es.length
  · refine .inr ⟨wk.go i Z H stp hlt, fun H' => ∃ m', m' < es.length - i ∧ ∃ Z S a aV, m' = es.length - (i + 1) ∧ i + 1 ≤ es.length ∧ Step Zb Hb Z H' ∧ SR K (e.pin Dl (.lst aV)) Z H' (L2.wipe σ2 vs1) S ∧ Rs K Z H' aV a ∧ lcL vs1 b1 (fun S => .ok true S) fe (es.drop (i + 1)) a S = .ok acc' S', fun H' h => h, fun x H3 hy => ?_⟩
    obtain ⟨d, Z3, hd, gr, rx⟩ := wk.yld i Z H x H3 stp s.zi hlt hy
    have hdrop : es.drop i = d :: es.drop (i + 1) := by
      rw [List.getElem?_eq_getElem hlt] at hd
      cases hd
      exact List.drop_eq_getElem_cons hlt
    rw [hdrop] at run
    unfold lcL at run
    cases hb : b1 d S with
    | none => rw [hb] at run; cases run
    | some S3 =>
      rw [hb] at run
      refine ⟨e.pin Dl (.lst aV), ⟨rfl, rfl⟩, Z3, S, d, S3, s.grow gr, rx, hb, fun σ3 s3 out => ?_⟩
      have hw : L2.wipe σ3 vs1 = L2.wipe σ2 vs1 := by
        rw [wipe_same out.1 fun j hj => out.2 j hj]
        exact wipe_wipe
      refine ⟨hw, ?_⟩
      show exE K mg W0 e.M e.T fe σ3 H3 _
      refine ⟨e.pin Dl (.lst aV), ⟨rfl, rfl⟩, Z3, S3, s3, ?_⟩
      have run : ((fe S3).bind fun y S4 => if a.length < sizeLine then lcL vs1 b1 (fun S => .ok true S) fe (es.drop (i + 1)) (a ++ [y]) (wipeS S4 vs1) else .bad) = .ok acc' S' := run
      cases hf : fe S3 with
      | bad => rw [hf] at run; cases run
      | exc xx S4 => rw [hf] at run; cases run
      | ok y S4 =>
        rw [hf] at run
        have run : (if a.length < sizeLine then lcL vs1 b1 (fun S => .ok true S) fe (es.drop (i + 1)) (a ++ [y]) (wipeS S4 vs1) else .bad) = .ok acc' S' := run
        split at run
        case isFalse => cases run
        rename_i hz
        intro yv Z5 H5 st5 s5 ry
        have r5 := Rs.step (gr.step.trans st5) r
        obtain ⟨k, s6, r6⟩ := SR.more eP eH s5 r5 ry
        exact ⟨aV, s5.pinned.1, by rw [r5.length]; exact hz, es.length - (i + 1), by omega, Z5, wipeS S4 vs1, a ++ [y], aV ++ [yv], rfl, hlt, (stp.trans (gr.step.trans st5)).trans k, by rw [← hw]; exact s6.wipe h01, r6, run⟩
  · obtain rfl : i = es.length := by omega
    rw [List.drop_length, lcL] at run
    cases run
    exact .inl ⟨wk.stop Z H stp, fin Z H aV stp s r⟩
theorem d_lc2 (ok : CxOk st sc c e W X) {own : List (Str × Nat)} {slots vs1 : List Nat} {fi fi1 : Sto → Res (List D)} {bnd b1 : D → Sto → Option Sto} {fe : Sto → Res D} (hsl : ∀ i ∈ slots, i ∈ own.map (·.2)) (hs1 : ∀ i ∈ vs1, i ∈ own.map (·.2)) :
    ∀ σ H Q, tF X.K X.mg W e (fun S => (fi S).bind fun ds S1 => if unOwned S1 (own.map (·.2)) && !(c.io && (own.map (·.2)).contains 0) then
      ((lc2L (own.map (·.2)) vs1 bnd fi1 b1 fe ds [] (wipeS S1 (own.map (·.2)))).quiet).bind fun ys S2 => .ok (.lst ys) (backS S1 S2 (own.map (·.2))) else .bad) σ H Q →
    tLc2 (tI X.K X.mg W e fi) (exG X.K e.M e.T slots bnd) tYes (exI X.K X.mg W0 e.M e.T fi1) (exG X.K e.M e.T vs1 b1) tYes (exE X.K X.mg W0 e.M e.T fe) (own.map (·.2)) vs1 σ H Q := by
  generalize hvs : own.map (·.2) = vs at *
  intro σ H Q ⟨Z, S, s, h⟩
  refine ⟨Z, S, s, (Aft.bind (Rel := RelW X.K) h).mono fun J H1 ⟨Z1, ds, S1, _, st1, s1, wk, h1⟩ => fun Dl hD => ?_⟩
  split at h1
  case isFalse => exact h1.elim
  rename_i hc
  rw [Bool.and_eq_true] at hc
  obtain ⟨hu, hio⟩ := hc
  have h0 : ∀ a, e.M a → 0 ∉ vs := fun a m z => by
    cases q : c.io with
    | false => exact ok.io q a m
    | true => rw [q] at hio; simp [z] at hio
  have h01 : ∀ a, e.M a → 0 ∉ vs1 := fun a m z => h0 a m (hs1 0 z)
  have nz1 : ¬ Z1 Dl := fun z => s1.zi Dl z hD
  have eP : e.P Dl = none := s1.newP hD
  have eH : e.H Dl = none := s1.new hD
  -- it all ends in a list
  obtain ⟨accE, SE, run⟩ : ∃ a S', lc2L vs vs1 bnd fi1 b1 fe ds [] (wipeS S1 vs) = .ok a S' := by
    cases q : lc2L vs vs1 bnd fi1 b1 fe ds [] (wipeS S1 vs) with
    | ok a S' => exact ⟨a, S', rfl⟩
    | exc x S' => rw [q] at h1; exact h1.elim
    | bad => rw [q] at h1; exact h1.elim
  rw [run] at h1
  refine ⟨fun i m H2 => ∃ Z2 S2 acc accV, m = ds.length - i ∧ i ≤ ds.length ∧ Step Z1 H1 Z2 H2 ∧ SR X.K (e.pin Dl (.lst accV)) Z2 H2 (L2.wipe σ vs) S2 ∧ Rs X.K Z2 H2 accV acc ∧ lc2L vs vs1 bnd fi1 b1 fe (ds.drop i) acc S2 = .ok accE SE, ?_, ?_⟩
  · obtain ⟨g, rf⟩ := relF_new (e := e) s1 hD (.nil : Rs X.K Z1 H1 [] [])
    have s3 : SR X.K (e.pin Dl (.lst [])) Z1 (upd H1 Dl (.lst [])) σ S1 := (s1.grow g).pin (fun ps q => nomatch q) upd_same nz1 fun j o' hj _ hs => by
      obtain ⟨a, q1, _, q3, _⟩ := s1.own j o' hj
      rw [q1] at hs
      cases hs
      exact q3.there hD
    exact ⟨ds.length, Z1, wipeS S1 vs, [], [], rfl, Nat.zero_le _, g.step, s3.wipe h0, .nil, by rw [List.drop_zero]; exact run⟩
  · rintro i m H2 ⟨Z2, S2, acc, accV, rfl, hi', st2, s2, ra, hrun⟩
    by_cases hlt : i < ds.length
    · refine .inr ⟨wk.go i Z2 H2 st2 hlt, fun H' => ∃ m', m' < ds.length - i ∧ ∃ Z2 S2 acc accV, m' = ds.length - (i + 1) ∧ i + 1 ≤ ds.length ∧ Step Z1 H1 Z2 H' ∧ SR X.K (e.pin Dl (.lst accV)) Z2 H' (L2.wipe σ vs) S2 ∧ Rs X.K Z2 H' accV acc ∧ lc2L vs vs1 bnd fi1 b1 fe (ds.drop (i + 1)) acc S2 = .ok accE SE,
        fun H' h => h, fun x H3 hy => ?_⟩
      obtain ⟨d, Z3, hd, gr, rx⟩ := wk.yld i Z2 H2 x H3 st2 s2.zi hlt hy
      have hdrop : ds.drop i = d :: ds.drop (i + 1) := by
        rw [List.getElem?_eq_getElem hlt] at hd
        cases hd
        exact List.drop_eq_getElem_cons hlt
      rw [hdrop] at hrun
      unfold lc2L at hrun
      cases hb : bnd d S2 with
      | none => rw [hb] at hrun; cases hrun
      | some S3 =>
        rw [hb] at hrun
        refine ⟨e.pin Dl (.lst accV), ⟨rfl, rfl⟩, Z3, S2, d, S3, s2.grow gr, rx, hb, fun σ2 s3 out => ?_⟩
        have hw : L2.wipe σ2 vs = L2.wipe σ vs := by
          rw [wipe_same out.1 fun j hj => out.2 j fun z => hj (hsl j z)]
          exact wipe_wipe
        refine ⟨hw, ?_⟩
        show exI X.K X.mg W0 e.M e.T fi1 σ2 H3 _
        refine ⟨e.pin Dl (.lst accV), ⟨rfl, rfl⟩, Z3, S3, s3, ?_⟩
        have hrun : ((fi1 S3).bind fun es S4 => (lcL vs1 b1 (fun S => .ok true S) fe es acc (wipeS S4 vs1)).bind fun acc' S5 => lc2L vs vs1 bnd fi1 b1 fe (ds.drop (i + 1)) acc' (wipeS S5 vs)) = .ok accE SE := hrun
        cases hf : fi1 S3 with
        | bad => rw [hf] at hrun; cases hrun
        | exc xx S4 => rw [hf] at hrun; cases hrun
        | ok es S4 =>
          rw [hf] at hrun
          have hrun : ((lcL vs1 b1 (fun S => .ok true S) fe es acc (wipeS S4 vs1)).bind fun acc' S5 => lc2L vs vs1 bnd fi1 b1 fe (ds.drop (i + 1)) acc' (wipeS S5 vs)) = .ok accE SE := hrun
          cases hl : lcL vs1 b1 (fun S => .ok true S) fe es acc (wipeS S4 vs1) with
          | bad => rw [hl] at hrun; cases hrun
          | exc xx S5 => rw [hl] at hrun; cases hrun
          | ok acc' S5 =>
            rw [hl] at hrun
            intro J1 Z4 H4 st4 s4 wk1
            refine lc2_in eP eH h01 wk1 s4 (Rs.step (gr.step.trans st4) ra) hl fun Z5 H5 accV5 st5 s5 r5 => ?_
            refine ⟨ds.length - (i + 1), by omega, Z5, wipeS S5 vs, acc', accV5, rfl, hlt, (st2.trans (gr.step.trans st4)).trans st5, ?_, r5, hrun⟩
            have s6 := s5.wipe h0
            rw [wipe_same (wipe_length σ2 vs1) fun j hj => wipe_out fun z => hj (hs1 j z), hw] at s6
            exact s6
    · obtain rfl : i = ds.length := by omega
      rw [List.drop_length, lc2L] at hrun
      cases hrun
      refine .inl ⟨wk.stop Z2 H2 st2, ?_⟩
      have pin2 := s2.pinned
      have s3 : SR X.K e Z2 H2 (L2.wipe σ vs) SE := s2.unpin eP
      have hl : SE.length = S1.length := by rw [s3.ln, wipe_length, s1.ln]
      refine h1 _ Z2 H2 st2 (s1.unwipe s3 st2 hu h0) ⟨Dl, rfl, pin2.2.1, ⟨accV, pin2.1, ra⟩, eH, fun j o' hj hs => ?_, eP⟩
      by_cases hj2 : j ∈ vs
      · rw [backS_in hl hj2] at hj
        exact unOwned_at hu hj2 o' hj
      · rw [backS_out hj2] at hj
        have := pin2.2.2 j o' hj
        rw [wipe_out hj2] at this
        exact this hs
end
end Dv

/-! walks over dicts of one's own: the dict is locked meanwhile -/
namespace Dv
open PySem PySem.Spec L2
section
variable {P : Program} {w : World} {K : PySem.W.Frag} {tg : Expr} {a : Addr} {ob : Obj} {u : HO} {es : Array DictEntry} {ep n : Nat} {key : Nat → V → Prop}
def Itw (a : Addr) (ob : Obj) (u : HO) (n : Nat) (key : Nat → V → Prop) : It where
  go := fun i H => H a = some (.frz ob u) ∧ i < n
  yld := fun i H v H' => H' = H ∧ key i v
  stop := fun i H => H a = some (.frz ob u) ∧ n ≤ i
theorem lock_at {X : Cx} {pins : List (Addr × Obj)} {σ : L2.St} {H : Hp} {s : Shared} (I : Inv X pins σ H s) (h : H a = some (.frz ob u)) : s.heap.get? a = some ob := (show ObjOk X.prog X.w H s.heap a (.frz ob u) from I.hok a _ h).1
theorem turn_w (it : Addr) (hod : ob.data = .dict es ep) (hs : es.size = n) (hk : ∀ i (h : i < es.size), ∃ v, RelV v es[i].key ∧ key i v) : Turn P w K tg (Itw a ob u n key) [it] it (fun i h => h.IsKeyIter it a i n ep) where
  mem := List.mem_cons_self
  obj := fun i h st b hb => by
    obtain ⟨x, e1, _, e2⟩ := st
    rw [List.mem_singleton.mp hb]
    exact ⟨x, e1, fun v z => by rw [e2] at z; cases z⟩
  keep := fun i h h' st k => st.at fun x e => k it List.mem_cons_self x e
  item := fun X e1 e2 e3 hc i pins s σ H E I hf st hg => by
    subst e1 e2 e3
    have f := hf it List.mem_cons_self
    have hi : i < es.size := by rw [hs]; exact hg.2
    obtain ⟨v, rv, kv⟩ := hk i hi
    refine next_key_item st (lock_at I hg.1) hod hs (Array.getElem?_eq_getElem hi) fun h' st' same => ?_
    have J : Inv X pins σ H { s with heap := h' } := I.turned (t' := s.toks) (fun b x hb e => (same.2 b hb).trans e) f.1 f.2.1 f.2.2.2.1 f.2.2.2.2.1 f.2.2.2.2.2
    have st2 := st'
    obtain ⟨x, g1, g2, g3⟩ := st'
    exact ⟨_, rfl, go_of (s := { s with heap := h' }) g1 g2 g3 (by decide) ⟨v, H, J, rv, ⟨rfl, kv⟩, st2, fun b hb => (hf b hb).1⟩⟩
  done := fun X e1 e2 e3 hc i pins s σ H E I hf st hg => by
    subst e1 e2 e3
    have f := hf it List.mem_cons_self
    exact next_key_end (I.ok.hd hc) st (lock_at I hg.1) hod hs hg.2 fun h' same => ⟨rfl, I.turned (t' := s.toks) (fun b x hb e => same b x hb e) f.1 f.2.1 f.2.2.2.1 f.2.2.2.2.1 f.2.2.2.2.2⟩
  self := fun _ _ _ _ _ r q => wpAny_pyIter_keyiter r q
end
section
variable {st : Sta} {sc : Scope} {c : Cfg} {e : Ent} {W : WX} {X : Cx} {tg : Expr} {p : Pos}
/-- for k in d, d locked -/
def iW (K : PySem.W.Frag) (w : World) (i : Nat) : TI := fun σ H G => ∃ a Z ob u kvs, σ[i]? = some (some (V.ref a)) ∧ H a = some (.frz ob u) ∧ DctSee K w Z H a kvs ∧ G (Itw a ob u kvs.length fun j v => ∃ d, (kvs.map (·.1))[j]? = some d ∧ R K Z H v d) H
theorem pi_w (ok : CxOk st sc c e W X) {i : Nat} {x : Str} (hN : st.N[i]? = some x) (hv : visB sc x = true) : PI X tg (.Name x p) (iW X.K X.w i) := by
  refine ⟨fun pins s σ H G I ⟨a, Z, ob, u, kvs, ha, hl, hd, h⟩ => ?_⟩
  refine thn ((pe_nm ok hN hv).run pins s σ H (fun v H' => v = V.ref a ∧ H' = H) I ⟨V.ref a, ha, rfl, rfl⟩) fun v s1 ⟨y, H1, I1, ry, ey, eH⟩ => ?_
  subst ey eH
  cases ry
  obtain ⟨es, ep, ⟨o2, g1, g2, g3⟩, h1, h2, h3, h4⟩ := dct_raw I1 hd
  have g0 := lock_at I1 hl
  rw [g1] at g0
  cases g0
  refine iter_keys h3 g1 g2 g3 (pi_one (tk := s1.toks) I1 _ (turn_w _ g3 h1 fun j hj => ?_) ⟨_, Heap.get?_push_size _ rfl, rfl, ?_⟩ h)
  · have hk : j < kvs.length := by omega
    obtain ⟨⟨v, b1, b2⟩, _⟩ := h4 j hj hk
    exact ⟨v, b1, kvs[j].1, by simp [hk], b2⟩
  · rw [h1]
    rfl
theorem codeO_raw {a c : Addr} {q : Str} {w : World} {xs : Xs} (e0 : a = c) : LamX.CodeO c q ≠ .ext (rawD w a xs) := fun z => by
  subst e0
  unfold LamX.CodeO at z
  injection z with z
  have k := congrFun z { objs := Array.replicate (a + 1) { cls := .none, data := .fields #[.none, .str q 0] } }
  have e : Heap.get? { objs := Array.replicate (a + 1) { cls := .none, data := .fields #[.none, .str q 0] } } a = some { cls := .none, data := .fields #[.none, .str q 0] } := by
    simp [Heap.get?]
  have k1 : rawD w a xs { objs := Array.replicate (a + 1) { cls := .none, data := .fields #[.none, .str q 0] } } := k.mp ⟨_, _, 0, e, rfl, rfl⟩
  obtain ⟨_, _, _, o, es, ep, h1, h2, h3, _⟩ := k1
  rw [e] at h1
  cases h1
  cases h3
theorem chg_at {T : Tz} {Z : Zn} {H : Hp} {a : Addr} {o : HO} (hc : ∀ q, H a ≠ some (LamX.CodeO a q)) (zi : ∀ a, Z a → H a ≠ none) (nz : ¬ Z a) (nt : ¬ T a) (tz : ∀ a, T a → ¬ Z a) (tb : ∀ a, T a → TabG T H a) : Chg T (fun b => b = a) Z H Z (upd H a o) where
  z := fun _ h => h
  n := fun _ h => .inl h
  h := fun b x hb hn _ => by rw [upd_ne hn]; exact hb
  i := fun b hb q => by
    by_cases e1 : b = a
    · exact nz (e1 ▸ hb)
    · rw [upd_ne e1] at q; exact zi b hb q
  t := fun b hb q => by
    by_cases e1 : b = a
    · rw [e1, upd_same] at q; cases q
    · rw [upd_ne e1] at q; exact hb q
  m := fun b (hb : b = a) => hb ▸ nz
  tz := tz
  tg := fun b t => by
    have nb : b ≠ a := fun q => nt (q ▸ t)
    obtain ⟨ps, e1, t1, t2⟩ := tb b t
    refine ⟨ps, by rw [upd_ne nb]; exact e1, t1, fun q hq pos cv hv => ?_⟩
    obtain ⟨cc, e2, e3⟩ := t2 q hq pos cv hv
    refine ⟨cc, e2, ?_⟩
    by_cases z : cc = a
    · subst z; exact absurd e3 (hc q)
    · rw [upd_ne z]; exact e3
/-- a walk over a dict, locked: what it hands out at turn j stands for el of entry j -/
abbrev WJ := Zn → Hp → Addr → Obj → HO → List (D × D) → It
structure WalkJ (K : PySem.W.Frag) (J : WJ) (el : D × D → D) : Prop where
  go : ∀ Z H a ob u kvs j H2, H2 a = some (.frz ob u) → j < kvs.length → (J Z H a ob u kvs).go j H2
  stop : ∀ Z H a ob u kvs H2, H2 a = some (.frz ob u) → (J Z H a ob u kvs).stop kvs.length H2
  yld : ∀ Z H a ob u (kvs : List (D × D)) j H2 x H3 Z2, Step Z H Z2 H2 → (∀ b, Z2 b → H2 b ≠ none) → (J Z H a ob u kvs).yld j H2 x H3 → ∃ d Z3, (kvs.map el)[j]? = some d ∧ Grow Z2 H2 Z3 H3 ∧ R K Z3 H3 x d
def iJ (K : PySem.W.Frag) (w : World) (J : WJ) (i : Nat) : TI := fun σ H G => ∃ a Z ob u kvs, σ[i]? = some (some (V.ref a)) ∧ H a = some (.frz ob u) ∧ DctSee K w Z H a kvs ∧ G (J Z H a ob u kvs) H
theorem d_lcG (ok : CxOk st sc c e W X) {J : WJ} {el : D × D → D} (wj : WalkJ X.K J el) {own : List (Str × Nat)} {slots : List Nat} {i : Nat} {bnd : D → Sto → Option Sto} {ft : Sto → Res Bool} {fe : Sto → Res D} (hsl : ∀ j ∈ slots, j ∈ own.map (·.2)) :
    ∀ σ H Q, tF X.K X.mg W e (lcDR c.io i el (own.map (·.2)) bnd ft fe) σ H Q →
    tLockE (tLc (iJ X.K X.w J i) (exG X.K e.M e.T slots bnd) (exB X.K X.mg (Wat W σ) e.M e.T ft) (exE X.K X.mg (Wat W σ) e.M e.T fe) (own.map (·.2))) σ H Q := by
  generalize hvs : own.map (·.2) = vs at *
  intro σ H Q ⟨Z, S, s, h⟩
  unfold lcDR at h
  split at h
  case h_2 => exact h.elim
  rename_i kvs hi
  split at h
  case isFalse => exact h.elim
  rename_i hc
  rw [Bool.and_eq_true] at hc
  obtain ⟨hu, hio⟩ := hc
  have h0 : ∀ b, e.M b → 0 ∉ vs := fun b m z => by
    cases q : c.io with
    | false => exact ok.io q b m
    | true => rw [q] at hio; simp [z] at hio
  obtain ⟨a, ha, nz, da, _⟩ := s.own i _ hi
  have eP : e.P a = none := s.free hi ha rfl
  have nt := s.ownT hi ha
  obtain ⟨u, hu1, mu, dw, db, nc⟩ : ∃ u, H a = some u ∧ Mut (some u) ∧ (∀ od Z' H', Step Z H Z' H' → H' a = some (.frz od u) → DctW X.K e.T.w Z' H' a kvs) ∧
      (∀ od Z' H' H'' kv2, H' a = some (.frz od u) → DctW X.K e.T.w Z' H' a kv2 → H'' a = some u → Step Z' H' Z' H'' → DctAt X.K e.T.w Z' H'' a kv2) ∧ ∀ q, u ≠ LamX.CodeO a q := by
    have k2 : ∀ u, (∀ od Z' H' H'' kv2, H' a = some (.frz od u) → DctW X.K e.T.w Z' H' a kv2 → H'' a = some u → Step Z' H' Z' H'' → DctAt X.K e.T.w Z' H'' a kv2) := fun u od Z' H' H'' kv2 e1 d2 e2 st => by
      rcases d2 with ⟨o2, es, e3, r⟩ | ⟨o2, xs, e3, r⟩
      · rw [e1] at e3
        cases e3
        exact .inl ⟨es, e2, Ens.step st r⟩
      · rw [e1] at e3
        cases e3
        exact .inr ⟨xs, e2, Pd.imp (fun _ _ q => ⟨q.1, R.step st q.2.1, q.2.2.imp fun _ z => ⟨z.1, R.step st z.2⟩⟩) r.1, r.2⟩
    rcases da with ⟨es, e1, r⟩ | ⟨xs, e1, r⟩
    · exact ⟨_, e1, trivial, fun od Z' H' st e2 => .inl ⟨od, es, e2, Ens.step st r⟩, k2 _, fun q z => by unfold LamX.CodeO at z; cases z⟩
    · exact ⟨_, e1, trivial, fun od Z' H' st e2 => .inr ⟨od, xs, e2, Pd.imp (fun _ _ q => ⟨q.1, R.step st q.2.1, q.2.2.imp fun _ z => ⟨z.1, R.step st z.2⟩⟩) r.1, r.2⟩, k2 _, fun q z => codeO_raw rfl z.symm⟩
  refine ⟨a, u, hu1, mu, fun od => ?_⟩
  have ch : Chg e.T (fun b => b = a) Z H Z (upd H a (.frz od u)) := chg_at (fun q z => by rw [hu1] at z; exact nc q (Option.some.inj z)) s.zi nz nt s.tz s.tb
  have dw1 := dw od Z _ ch.step upd_same
  have s1 := s.backP hi ha ch (o' := .dctw kvs) dw1 eP
  have hlt : i < S.length := (List.getElem?_eq_some_iff.mp hi).1
  have s2 : SR X.K (e.pin a (.frz od u)) Z (upd H a (.frz od u)) σ (S.set i (.own (.dctw kvs))) := s1.pin (fun ps q => nomatch q) upd_same nz fun j o' hj hw hs => by
    by_cases e1 : i = j
    · subst e1
      rw [List.getElem?_set_self hlt] at hj
      cases hj
      cases hw
    · rw [List.getElem?_set_ne e1] at hj
      exact e1 (s.sep i j _ _ a hi hj ha hs)
  have pin_at : ∀ {Dl : Addr} {Z2 : Zn} {H2 : Hp} {σ2 : L2.St} {S2 : Sto} {accV : List V}, upd H a (.frz od u) Dl = none → SR X.K ((e.pin a (.frz od u)).pin Dl (.lst accV)) Z2 H2 σ2 S2 → H2 a = some (.frz od u) := fun {Dl Z2 H2 σ2 S2 accV} hD s3 => (s3.pn a (.frz od u) (by
    have nD : a ≠ Dl := fun z => by rw [z, upd_same] at hD; cases hD
    show (if a = Dl then some (HO.lst accV) else (if a = a then some (HO.frz od u) else e.P a)) = _
    rw [if_neg nD, if_pos rfl])).1
  refine ⟨a, Z, od, u, kvs, ha, upd_same, by rw [← ok.cw]; exact dw1.see, ?_⟩
  refine lc_walk (e := e.pin a (.frz od u)) (W := W) (slots := slots) (bnd := bnd) (ft := ft) (fe := fe) (J := J Z (upd H a (.frz od u)) a od u kvs) (ds := kvs.map el) (Q := fun v H' => H' a = some (.frz od u) ∧ Q v (upd H' a u)) hsl s2 hu h0 (fun Dl hD j Z2 H2 S2 accV st2 s3 hj => wj.go _ _ _ _ _ _ _ _ (pin_at hD s3) (by simpa using hj)) (fun j Z2 H2 x H3 st2 zi hj hy => wj.yld _ _ _ _ _ _ _ _ _ _ _ st2 zi hy) (fun Dl hD Z2 H2 S2 accV st2 s3 => by rw [List.length_map]; exact wj.stop _ _ _ _ _ _ _ (pin_at hD s3)) ?_
  · cases hr : lcL vs bnd ft fe (kvs.map el) [] (wipeS (S.set i (.own (.dctw kvs))) vs) with
    | bad => rw [hr] at h; exact h.elim
    | exc xx S2 => rw [hr] at h; exact h.elim
    | ok ys S2 =>
      rw [hr] at h
      intro v Z' H' st' s3 rf
      have h : Aft X.K X.mg W e Z H σ (unwalk i (backS (S.set i (.own (.dctw kvs))) S2 vs) ys) (RelF X.K e σ) Q := h
      unfold unwalk at h
      split at h
      case h_2 => exact h.elim
      rename_i kv2 hb
      have p3 := s3.pn a (.frz od u) (if_pos rfl)
      have s4 := s3.unpin eP
      obtain ⟨a', ha', nz', dw', _⟩ := s4.own i _ hb
      rw [ha] at ha'
      cases ha'
      have ch2 : Chg e.T (fun b => b = a) Z' H' Z' (upd H' a u) := chg_at (fun q z => by
        rw [p3.1] at z
        have z := Option.some.inj z
        unfold LamX.CodeO at z
        cases z) s4.zi nz' nt s4.tz s4.tb
      have s5 := s4.backP hb ha ch2 (o' := .dct kv2) (db od Z' H' _ kv2 p3.1 dw' upd_same ch2.step) eP
      refine ⟨p3.1, h v Z' (upd H' a u) (ch.step.trans (st'.trans ch2.step)) s5 ?_⟩
      obtain ⟨q, e1, n1, ⟨xs, e2, r2⟩, n2, n3, n4⟩ := rf
      have nq : q ≠ a := fun z => by rw [z, p3.1] at e2; cases e2
      refine ⟨q, e1, n1, ⟨xs, by rw [upd_ne nq]; exact e2, Rs.step ch2.step r2⟩, n2, fun j o' hj => ?_, ?_⟩
      · by_cases z : i = j
        · subst z
          exact n3 i _ hb
        · rw [List.getElem?_set_ne z] at hj
          exact n3 j o' hj
      · have n4 : (if q = a then some (HO.frz od u) else e.P q) = none := n4
        rw [if_neg nq] at n4
        exact n4
def JW (K : PySem.W.Frag) : WJ := fun Z H a ob u kvs => Itw a ob u kvs.length fun j v => ∃ d, (kvs.map (·.1))[j]? = some d ∧ R K Z H v d
theorem walk_w {K : PySem.W.Frag} : WalkJ K (JW K) (·.1) where
  go := fun _ _ _ _ _ _ _ _ h l => ⟨h, l⟩
  stop := fun _ _ _ _ _ _ _ h => ⟨h, Nat.le_refl _⟩
  yld := fun Z H a ob u kvs j H2 x H3 Z2 st zi ⟨e1, d, hd, r⟩ => by
    subst e1
    exact ⟨d, Z2, hd, .refl zi, R.step st r⟩
theorem d_lcD (ok : CxOk st sc c e W X) {own : List (Str × Nat)} {slots : List Nat} {i : Nat} {bnd : D → Sto → Option Sto} {ft : Sto → Res Bool} {fe : Sto → Res D} (hsl : ∀ j ∈ slots, j ∈ own.map (·.2)) :
    ∀ σ H Q, tF X.K X.mg W e (lcDR c.io i (·.1) (own.map (·.2)) bnd ft fe) σ H Q →
    tLockE (tLc (iW X.K X.w i) (exG X.K e.M e.T slots bnd) (exB X.K X.mg (Wat W σ) e.M e.T ft) (exE X.K X.mg (Wat W σ) e.M e.T fe) (own.map (·.2))) σ H Q := d_lcG ok walk_w hsl
end
end Dv

/-! for k, v in d.items(): a dict of one's own, locked meanwhile -/
namespace Dv
open PySem PySem.Spec PySem.W PyProof.V L2
section
variable {P : Program} {w : World} {K : PySem.W.Frag} {a : Addr} {ob : Obj} {u : HO} {es : Array DictEntry} {ep n : Nat} {kv : Nat → V → V → Prop} {elts : List Expr} {kk : Nat} {tpos : Pos}
def Itp (a : Addr) (ob : Obj) (u : HO) (n : Nat) (kv : Nat → V → V → Prop) : It where
  go := fun i H => H a = some (.frz ob u) ∧ i < n
  yld := fun i H x H' => ∃ T k v, kv i k v ∧ x = V.ref T ∧ H T = none ∧ H' = upd H T (.tup [k, v])
  stop := fun i H => H a = some (.frz ob u) ∧ n ≤ i
theorem raw_lock {X : Cx} {pins : List (Addr × Obj)} {σ : L2.St} {H : Hp} {s : Shared} (I : Inv X pins σ H s) (hx : ob.ExactDict) (hod : ob.data = .dict es ep) (h : H a = some (.frz ob u)) : DT.Raw s.heap a es ep := ⟨ob, lock_at I h, hx, hod⟩
theorem turn_p (it : Addr) (hx : ob.ExactDict) (hod : ob.data = .dict es ep) (hs : es.size = n) (hk : ∀ i (h : i < es.size), ∃ k v, RelV k es[i].key ∧ RelV v es[i].val ∧ kv i k v) :
    Turn P w K (.Tuple elts kk tpos) (Itp a ob u n kv) [it] it (fun i h => ∃ x y, IsItemIter h it a i n ep x y) where
  mem := List.mem_cons_self
  obj := fun i h ⟨x, y, st⟩ b hb => by
    rw [List.mem_singleton.mp hb]
    exact ⟨_, st, fun v z => by cases z⟩
  keep := fun i h h' ⟨x, y, st⟩ k => ⟨x, y, k it List.mem_cons_self _ st⟩
  item := fun X e1 e2 e3 hc i pins s σ H E I hf ⟨x, y, st⟩ hg => by
    subst e1 e2 e3 hs
    have hi : i < es.size := hg.2
    obtain ⟨k, v, rk, rv, q⟩ := hk i hi
    have out := Heap.lt_size st
    refine DT.nextI st (raw_lock I hx hod hg.1) hi fun h' st1 tup _ old => ⟨_, rfl, wpAny_letOwnedTupleGo_items (s := { s with heap := h' }) st1 fun h2 st2 same => ?_⟩
    have tup2 := (same.2 _ (Nat.ne_of_gt out)).trans tup
    have J := I.turnedNew (t' := s.toks) (h' := h2) (T := s.heap.objs.size) (ob := .tup [k, v]) (ch := [it]) (fun b o hb e => by
      have nb : b ≠ it := fun z => hb (by rw [z]; exact List.mem_cons_self)
      exact (same.2 b nb).trans (old b o nb e)) hf (Nat.le_refl _) ⟨(by show 2 ≤ sizeLine; decide), [es[i].key, es[i].val], .cons rk (.cons rv .nil), _, tup2, rfl, _, rfl⟩
    refine ⟨V.ref s.heap.objs.size, _, J, rfl, ⟨_, k, v, q, rfl, I.hok.fresh (Nat.le_refl _), rfl⟩, ⟨_, _, st2⟩, fun b hb => ?_⟩
    rw [List.mem_singleton.mp hb, upd_ne (Nat.ne_of_lt out)]
    exact (hf it List.mem_cons_self).1
  done := fun X e1 e2 e3 hc i pins s σ H E I hf ⟨x, y, st⟩ hg => by
    subst e1 e2 e3 hs
    have f := hf it List.mem_cons_self
    exact DT.endI (I.ok.hd hc) st (raw_lock I hx hod hg.1) hg.2 fun h' same => ⟨rfl, I.turned (t' := s.toks) (fun b x hb e => same b x hb e) f.1 f.2.1 f.2.2.2.1 f.2.2.2.2.1 f.2.2.2.2.2⟩
  self := fun _ _ _ _ _ ⟨_, _, r⟩ q => PySem.W.kcp_self r q
end
section
variable {st : Sta} {sc : Scope} {c : Cfg} {e : Ent} {W : WX} {X : Cx} {elts : List Expr} {kk : Nat} {tpos apos cpos p : Pos}
def iP (K : PySem.W.Frag) (w : World) (i : Nat) : TI := fun σ H G => ∃ a Z ob u kvs, σ[i]? = some (some (V.ref a)) ∧ H a = some (.frz ob u) ∧ DctSee K w Z H a kvs ∧
  G (Itp a ob u kvs.length fun j k v => ∃ q, kvs[j]? = some q ∧ R K Z H k q.1 ∧ R K Z H v q.2) H
theorem pi_p (ok : CxOk st sc c e W X) {i : Nat} {x : Str} (hN : st.N[i]? = some x) (hv : visB sc x = true) (hline : (apos.endLine == cpos.line) = true) :
    PI X (.Tuple elts kk tpos) (.Call (.Attribute (.Name x p) "items" apos) [] [] cpos) (iP X.K X.w i) := by
  refine ⟨fun pins s σ H G I ⟨a, Z, ob, u, kvs, ha, hl, hd, h⟩ => ?_⟩
  refine wpAny_Call_method (T := "dict") (id := "dict.items") rfl rfl hline PySem.F.plainAttrs_dict PySem.F.slot_dict_items PySem.F.type_dict_items (thn ((pe_nm ok hN hv).run pins s σ H (fun v H' => v = V.ref a ∧ H' = H) I ⟨V.ref a, ha, rfl, rfl⟩) fun v s1 ⟨y, H1, I1, ry, ey, eH⟩ => ?_)
  subst ey eH
  cases ry
  obtain ⟨es, ep, ⟨o2, g1, g2, g3⟩, h1, h2, h3, h4⟩ := dct_raw I1 hd
  have g0 := lock_at I1 hl
  rw [g1] at g0
  cases g0
  have raw : DT.Raw s1.heap a es ep := ⟨_, g1, g2, g3⟩
  have I2 : Inv X pins σ H1 { s1 with heap := s1.heap.push { cls := .type "dict_items", data := .fields #[.ref a] } } := I1.kept (t' := s1.toks) fun b x q => Heap.get?_push_of_some _ q
  refine ⟨raw.typeIs, fun b z => ⟨ob, by cases z; exact g1, g2.2.1⟩, ?_⟩
  have fin : wpAny (model X.prog X.w) X.A (pyIter (.ref s1.heap.objs.size)) (PIE X pins σ (.Tuple elts kk tpos) G) X.xe { s1 with heap := s1.heap.push { cls := .type "dict_items", data := .fields #[.ref a] } } := by
    refine DT.iterI ⟨_, Heap.get?_push_size _ rfl, rfl, rfl⟩ (raw.push _) (pi_one (tk := s1.toks) I2 _ (turn_p _ g2 g3 h1 fun j hj => ?_) ⟨.none, .none, ?_⟩ h)
    · have hk : j < kvs.length := by omega
      obtain ⟨⟨k, b1, b2⟩, v, c1, c2⟩ := h4 j hj hk
      exact ⟨k, v, b1, c1, kvs[j], List.getElem?_eq_getElem hk, b2, c2⟩
    · rw [← h1]
      exact Heap.get?_push_size _ rfl
  show wpAny _ _ (callWith cpos (.builtin "dict.items") [.ref a] [] []) _ X.xe s1
  exact method_meetsIn PySem.F.slot_dict_items PySem.F.entry_dict_items rfl (PySem.evalArgs_none ⟨rfl, raw.typeIs, PySem.F.args_dict_items_1 _, _, DT.meetsItems h3, raw, fin⟩)
def JP (K : PySem.W.Frag) : WJ := fun Z H a ob u kvs => Itp a ob u kvs.length fun j k v => ∃ q, kvs[j]? = some q ∧ R K Z H k q.1 ∧ R K Z H v q.2
theorem walk_p {K : PySem.W.Frag} : WalkJ K (JP K) fun q => .tuple [q.1, q.2] where
  go := fun _ _ _ _ _ _ _ _ h l => ⟨h, l⟩
  stop := fun _ _ _ _ _ _ _ h => ⟨h, Nat.le_refl _⟩
  yld := fun Z H a ob u kvs j H2 x H3 Z2 st zi ⟨T, k, v, ⟨q, hq, rk, rv⟩, e1, hT, e2⟩ => by
    subst e1 e2
    have g := Grow.new (o := .tup [k, v]) zi hT
    exact ⟨_, Z2.put T, by rw [List.getElem?_map, hq]; rfl, g, .tup Zn.put_self upd_same (.cons (R.step (st.trans g.step) rk) (.cons (R.step (st.trans g.step) rv) .nil))⟩
theorem d_lcP (ok : CxOk st sc c e W X) {own : List (Str × Nat)} {slots : List Nat} {i : Nat} {bnd : D → Sto → Option Sto} {ft : Sto → Res Bool} {fe : Sto → Res D} (hsl : ∀ j ∈ slots, j ∈ own.map (·.2)) :
    ∀ σ H Q, tF X.K X.mg W e (lcDR c.io i (fun q => .tuple [q.1, q.2]) (own.map (·.2)) bnd ft fe) σ H Q →
    tLockE (tLc (iP X.K X.w i) (exG X.K e.M e.T slots bnd) (exB X.K X.mg (Wat W σ) e.M e.T ft) (exE X.K X.mg (Wat W σ) e.M e.T fe) (own.map (·.2))) σ H Q := d_lcG ok walk_p hsl
end
end Dv

namespace Dv
open PySem PySem.Spec L2
/-! how often something stands in a list of data -/
section
variable {st : Sta} {sc : Scope} {c : Cfg} {e : Ent} {W : WX} {X : Cx} {a b : Expr} {fa fb : Sto → Res D} {pos : Pos}
def tyL (K : PySem.W.Frag) (x : V) (H : Hp) : Prop := ∃ Z ds, R K Z H x (.list ds)
theorem ty_lst : TyOk X "list" (tyL X.K) := by
  intro pins σ H s x v I rx ⟨Z, ds, r⟩
  obtain ⟨a, xs, rfl, sq, rs⟩ := r.lst_inv
  cases rx
  obtain ⟨its, rv, pl, hz⟩ := I.list sq
  refine ⟨pl.isList.typeIs, fun b q => ?_⟩
  cases q
  obtain ⟨o, n, h1, h2, h3, h4⟩ := pl
  exact ⟨o, h1, by simp_all⟩
def rCntD (K : PySem.W.Frag) : V → List V → Hp → VK → Prop := fun x xs H Q => ∃ y Z a d k, xs = [y] ∧ R K Z H x a ∧ R K Z H y d ∧ dCount a d = some (.int k) ∧ Q (.int k) H
theorem mt_cntD (hu : X.A.units + 80 < cLine) : MtR X "list.count" (rCntD X.K) := by
  intro pins s σ H x xs v us Q I rx rxs h
  obtain ⟨y, Z, a, d, k, rfl, ra, rd, hk, q⟩ := h
  obtain ⟨u, rfl, ru⟩ := rxs.one
  obtain ⟨as, r1⟩ := rd.rds I ru
  cases a with
  | list ds =>
    obtain ⟨bs, r2⟩ := ra.rds I rx
    have pl : PyData.plainAll ds = true := by
      obtain ⟨_, _, _, _, rs⟩ := ra.lst_inv
      exact Rs.plain (Pd.imp (fun _ _ h => R.plain h) rs)
    unfold dCount at hk
    dsimp only at hk
    split at hk
    · cases hk
      cases r2 with
      | list h1 h2 h3 h4 => exact PySem.SeqAt.count_list_data ⟨_, h1, h2, _, h3⟩ h4 r1 pl rd.plain (by omega) ⟨.int _, H, I.tok _, ⟨_, rfl⟩, q⟩
    · cases hk
  | _ => cases hk
theorem few_cnt {env : Env} {p3 : Pos} {x : Expr} (hx : plainE x = true) : ((((backTo p3 (starEach [x] env)).all fun x => !x.fst) && (backToKw p3 (keywordEach [] env)).all fun x => x.fst.isSome) && decide (([x].length + ([] : List Keyword).length + if ([] : List Keyword).isEmpty = true then 0 else 1) < 30)) = true := by
  rw [star_cons hx]
  rfl
theorem d_cnt (ok : CxOk st sc c e W X) {x : Str} {p1 p2 : Pos} (hl : (p2.endLine == pos.line) = true) (hb : plainE b = true) (pa : PE X (.Name x p1) (tE X.K X.mg W e fa)) (pb : PE X b (tE X.K X.mg W e fb)) :
    PE X (.Call (.Attribute (.Name x p1) "count" p2) [b] [] pos) (tE X.K X.mg W e fun S => (fa S).bind fun d1 S1 => if isLs d1 = true then (fb S1).bind fun d2 S2 => Res.of (dCount d1 d2) S2 else .bad) := by
  refine (pe_mG ty_lst PySem.F.plainAttrs_list PySem.F.slot_list_count PySem.F.type_list_count (mt_cntD ok.units) pa (pa_cons pb pa_nil (star_cons hb)) (hfew := few_cnt hb) (hline := hl) (hs := star_cons hb) (hplain := rfl)).mono fun σ H Q ⟨Z, S, s, h⟩ => ?_
  refine ⟨Z, S, s, (Aft.bind (Rel := RelD X.K) h).mono fun v1 H1 ⟨Z1, d1, S1, _, st1, s1, r1, h1⟩ => ?_⟩
  cases q : isLs d1 with
  | false => rw [if_neg (by rw [q]; exact Bool.false_ne_true)] at h1; exact h1.elim
  | true =>
    rw [if_pos q] at h1
    refine ⟨?_, Z1, S1, s1, (Aft.bind (Rel := RelD X.K) h1).mono fun v2 H2 ⟨Z2, d2, S2, _, st2, s2, r2, h2⟩ => ?_⟩
    · cases d1 with
      | list ds => exact ⟨Z1, ds, r1⟩
      | _ => cases q
    · obtain ⟨d, hd, h3⟩ := Aft.of h2
      cases d1 with
      | list ds =>
        unfold dCount at hd
        dsimp only at hd
        split at hd
        · rename_i hz
          cases hd
          exact ⟨v2, Z2, .list ds, d2, _, rfl, R.step st2 r1, r2, if_pos hz, h3 _ Z2 H2 .refl s2 (.int _)⟩
        · cases hd
      | _ => cases q
end
end Dv

namespace Dv
open PySem PySem.Spec L2
/-! a or b, of data -/
theorem tru_of {K : PySem.W.Frag} {Z : Zn} {H : Hp} {x : V} {d : D} {k : Bool} (r : R K Z H x d) (h : dTru d = some k) : TruV K x H k := by
  cases d with
  | none => rw [r.non_inv]; simp only [dTru, Option.some.injEq] at h; exact h.symm
  | bool b => rw [r.bl_inv]; simp only [dTru, Option.some.injEq] at h; exact h.symm
  | int i => rw [r.int_inv]; simp only [dTru, Option.some.injEq] at h; exact h.symm
  | str z =>
    rw [r.str_inv]
    unfold dTru at h
    dsimp only at h
    split at h
    · rename_i hz
      cases h
      exact ⟨hz, rfl⟩
    · cases h
  | tuple ds =>
    obtain ⟨a, xs, rfl, h1, s1⟩ := r.tup_inv
    simp only [dTru, Option.some.injEq] at h
    refine .inr (.inl ⟨xs, h1, ?_⟩)
    rw [← h]
    have := s1.length
    cases xs <;> cases ds <;> simp_all
  | list ds =>
    obtain ⟨a, xs, rfl, h1, s1⟩ := r.lst_inv
    simp only [dTru, Option.some.injEq] at h
    refine .inl ⟨xs, h1, ?_⟩
    rw [← h]
    have := s1.length
    cases xs <;> cases ds <;> simp_all
  | dict kvs => simp [dTru] at h
section
variable {st : Sta} {sc : Scope} {c : Cfg} {e : Ent} {W : WX} {X : Cx} {a b : Expr} {fa fb : Sto → Res D} {pos : Pos} {rest : List Expr}
theorem d_orV (ha : PE X a (tE X.K X.mg W e fa)) (hb : PE X (.BoolOp .Or (b :: rest) pos) (tE X.K X.mg W e fb)) :
    PE X (.BoolOp .Or (a :: b :: rest) pos) (tE X.K X.mg W e fun S => (fa S).bind fun d1 S1 => (Res.of (dTru d1) S1).bind fun k S2 => if k then .ok d1 S2 else fb S2) := by
  refine (pe_orT ha hb).mono fun σ H Q ⟨Z, S, s, h⟩ => ?_
  refine ⟨Z, S, s, (Aft.bind (Rel := RelD X.K) h).mono fun v1 H1 ⟨Z1, d1, S1, _, st1, s1, r1, h1⟩ => ?_⟩
  cases q : dTru d1 with
  | none => rw [q] at h1; exact h1.elim
  | some k =>
    rw [q] at h1
    refine ⟨k, tru_of r1 q, ?_⟩
    cases k with
    | false => exact ⟨Z1, S1, s1, h1⟩
    | true => exact h1 _ Z1 H1 .refl s1 r1
end
end Dv

namespace Dv
open PySem PySem.Spec L2
/-! f(a, l, b): a list of one's own is handed over to be read, and stays one's own -/
/-- without lists, the zone may lose a list -/
theorem R.less {K : PySem.W.Frag} {Z : Zn} {H : Hp} {a : Addr} {xs : List V} (ha : H a = some (.lst xs)) {v : V} {d : D} (r : R K Z H v d) : noLst d = true → R K (fun b => Z b ∧ b ≠ a) H v d :=
  R.rec (motive_1 := fun v d _ => noLst d = true → R K (fun b => Z b ∧ b ≠ a) H v d) (motive_2 := fun vs ds _ => noLsts ds = true → Rs K (fun b => Z b ∧ b ≠ a) H vs ds)
    (fun _ => .non) (fun b _ => .bl b) (fun i _ => .int i) (fun x _ => .str x) (fun _ _ _ _ h => by simp [noLst] at h)
    (fun {b} {ys} {ds} hz hr _ ih h => .tup ⟨hz, fun z => by rw [z, ha] at hr; cases hr⟩ hr (ih (by simpa [noLst] using h)))
    (fun _ _ _ h => by simp [noLst] at h) (fun k _ ih h => .ktup k (ih (by simpa [noLst] using h))) (fun _ => .nil)
    (fun _ _ p q h => by
      simp only [noLsts, Bool.and_eq_true] at h
      exact .cons (p h.1) (q h.2)) r
theorem own_lst {K : PySem.W.Frag} {e : Ent} {Z : Zn} {H : Hp} {σ : L2.St} {S : Sto} {i : Nat} (s : SR K e Z H σ S) (h : isOwnL S i = true) : ∃ a, σ[i]? = some (some (V.ref a)) := by
  unfold isOwnL at h
  split at h
  · rename_i o ho
    obtain ⟨a, ha, _⟩ := s.own i _ ho
    exact ⟨a, ha⟩
  · cases h
section
variable {st : Sta} {sc : Scope} {c : Cfg} {e : Ent} {W : WX} {X : Cx} {fa fb : Sto → Res D} {a b : Expr} {pos : Pos}
theorem d_lend (ok : CxOk st sc c e W X) {f x : Str} {i : Nat} {p q : Pos} (hg : glB sc f = true) (hf : st.fns.lookup f = some .pl) (hmt : (st.mts.lookup f).isNone = true) (hN : st.N[i]? = some x) (hv : visB sc x = true) (pa : plainE a = true) (pb : plainE b = true) (ha : PE X a (tE X.K X.mg W e fa)) (hb : PE X b (tE X.K X.mg W e fb)) :
    PE X (.Call (.Name f q) [a, .Name x p, b] [] pos) (tE X.K X.mg W e fun S => if c.run.isEmpty then .bad else (fa S).bind fun d1 S1 => if isOwnL S1 i then (fb S1).bind fun d2 S2 => lendR c f i d1 d2 S2 else .bad) := by
  obtain ⟨g1, g2, g3⟩ := gl_of ok.sc hg
  have fns := ok.fns
  have room := ok.room
  cases hr : c.run with
  | nil => exact pe_absurd fun S => rfl
  | cons r rs =>
    rw [hr] at fns room
    obtain ⟨fa', fd, ps, mat, m3, F, ar⟩ := (fns.head hf).ex
    obtain ⟨m1, m2⟩ := fat_name hmt mat
    have hpl : (backTo pos (starEach [.Name x p, b] X.env)).any (·.1) = false := by
      rw [star_cons (x := .Name x p) rfl, star_cons pb]
      rfl
    refine (pe_callS (E := WE W) F room g1 m1 m2 m3 ok.lx.pass (pa_cons ha (pa_cons (pe_nm (p := p) ok hN hv) (pa_cons hb pa_nil (star_cons pb)) rfl) (star_cons pa)) g2 (star_cons pa) hpl).mono fun σ H Q ⟨Z, S, s, h⟩ => ?_
    refine ⟨Z, S, s, (Aft.bind (Rel := RelD X.K) h).mono fun v1 H1 ⟨Z1, d1, S1, _, st1, s1, r1, h1⟩ => ?_⟩
    split at h1
    case isFalse => exact h1.elim
    rename_i hi
    obtain ⟨l, hl⟩ := own_lst s1 hi
    refine ⟨V.ref l, hl, Z1, S1, s1, (Aft.bind (Rel := RelD X.K) h1).mono fun v2 H2 ⟨Z2, d2, S2, _, st2, s2, r2, h2⟩ => ?_⟩
    unfold lendR at h2
    split at h2
    case h_2 => exact h2.elim
    rename_i ds hS
    obtain ⟨l', f1, f2, ⟨xs, f3, f4⟩, f5⟩ := s2.own i _ hS
    rw [hl] at f1
    cases f1
    have nt := s2.ownT hS hl
    have g0 : Step Z2 H2 (Z2.put l) H2 := ⟨fun _ h => .inl h, fun _ _ _ h => h⟩
    have rl : R X.K (Z2.put l) H2 (V.ref l) (.list ds) := .lst Zn.put_self (.inl f3) (Rs.step g0 f4)
    have rr : Rs X.K (Z2.put l) H2 [v1, V.ref l, v2] [d1, .list ds, d2] := .cons (R.step g0 (R.step st2 r1)) (.cons rl (.cons (R.step g0 r2) .nil))
    unfold callR at h2
    rw [hr] at h2
    dsimp only at h2
    have nb : r f none [d1, .list ds, d2] ≠ .bad := fun z => by rw [z] at h2; exact h2.elim
    refine ⟨by have := ar none [d1, .list ds, d2] nb; exact this, Z2.put l, fun b hb => ?_, fun b t => ⟨s2.tb b t, fun hb => ?_⟩, _, rr, ?_⟩
    · rcases hb with hb | rfl
      · exact s2.zi b hb
      · rw [f3]; simp
    · rcases hb with hb | rfl
      · exact s2.tz b t hb
      · exact nt t
    cases q : r f none [d1, .list ds, d2] with
    | bad => exact nb q
    | okF o => rw [q] at h2; exact h2.elim
    | okT _ _ _ => rw [q] at h2; exact h2.elim
    | exc xx => rw [q] at h2; exact h2.elim
    | ok d o =>
      rw [q] at h2
      cases o with
      | some o => exact h2.elim
      | none =>
        dsimp only at h2
        split at h2
        case isFalse => exact h2.elim
        rename_i hd
        intro v Z' H' g rv
        have hl' : H' l = some (.lst xs) := g.h l _ f3 (fun z => z) nt
        have g' : Chg e.T (fun _ => False) Z2 H2 (fun b => Z' b ∧ b ≠ l) H' := ⟨fun b hb => ⟨g.z b (.inl hb), fun z => f2 (z ▸ hb)⟩, fun b hb => by
          rcases g.n b hb.1 with (h | h) | h
          · exact .inl h
          · exact absurd h hb.2
          · exact .inr h, g.h, fun b hb => g.i b hb.1, g.t, fun _ z => z.elim, s2.tz, g.tg⟩
        exact h2 v _ H' g'.step (s2.chg g' (fun _ z => z.elim) (fun _ z => z.elim) fun _ z => z.elim) (R.less hl' rv hd)
end
end Dv

namespace Dv
open PySem PySem.Spec L2
theorem blk_ok {st : Sta} {sc : Scope} {c : Cfg} {e e' : Ent} {W : WX} {X : Cx} (ok : CxOk st sc c e W X) (he : e'.M = e.M ∧ e'.T = e.T) {pins : List (Addr × Obj)} {σ : L2.St} {s : Shared} {H : Hp} {scope : Scope} {cl : List (Str × Addr)} {fp : List Addr} (bg : Begun X pins σ s H fp) :
    CxOk st (relS scope sc) c e' (Wat W σ) (blkX X s H scope (compEnvC scope cl s.heap.objs.size X.env) fp) where
  calm := ok.calm
  nd := ok.nd
  N := ok.N
  sc := by rw [← ok.sc]; rfl
  room := ok.room
  tab := fun h => by
    obtain ⟨h1, cd, P, h2, h3, h4, h5⟩ := ok.tab h
    exact ⟨h1, cd, P, h2, h3, by rw [he.2]; exact h4, by rw [he.2]; exact h5⟩
  fns := by rw [he.2]; exact ok.fns
  cmg := by rw [he.2]; exact ok.cmg
  cw := by rw [he.2]; exact ok.cw
  cl := ok.cl
  bl := ok.bl
  con := ok.con
  io := fun h a m => ok.io h a (by rw [← he.1]; exact m)
  lx := ok.lx.blk bg.inv rfl (Nat.le_refl _) fun b hb => (bg.fps b hb).1
/-- in a generator's frame -/
theorem gen_ok {st : Sta} {sc : Scope} {c : Cfg} {e e' : Ent} {W : WX} {X : Cx} (ok : CxOk st sc c e W X) (hr : Room (2 * c.run.length + 1) X.A) (he : e'.M = e.M ∧ e'.T = e.T) {s : Shared} {H : Hp} {scope : Scope} {C : Addr} {code : Value} {fp : List Addr} :
    CxOk { st with gx := false } scope c e' W0 (genCx X (genA X (gEnv X scope C code)) s H (gEnv X scope C code) fp) where
  calm := rfl
  nd := ok.nd
  N := ok.N
  sc := rfl
  room := genA_room hr
  tab := fun h => nomatch h
  fns := by rw [he.2]; exact ok.fns
  cmg := by rw [he.2]; exact ok.cmg
  cw := by rw [he.2]; exact ok.cw
  cl := ok.cl
  bl := ok.bl
  con := ok.con
  io := fun h a m => ok.io h a (by rw [← he.1]; exact m)
  lx := .inl fun _ _ _ _ h => h
theorem genScB_of {scope : Scope} (h : genScB scope = true) : scope.isCoroutine = false ∧ (∀ y ∈ scope.names, y.2 ≠ .cell) ∧ scope.names.lookup (".0" : Str) = some NameKind.local := by
  unfold genScB at h
  simp only [Bool.and_eq_true, Bool.not_eq_true', decide_eq_true_eq, List.all_eq_true, decide_eq_false_iff_not] at h
  exact ⟨h.1.1, h.1.2, h.2⟩
theorem fold_of {iter : Expr} {env : Env} (h : plainE iter = true) (h2 : notList iter = true) : ∀ v, genFold iter env v = pure v := by
  intro v
  cases iter <;> first | rfl | (simp [plainE] at h; done) | (simp [notList] at h2; done)
theorem beq_cell {o : Option NameKind} (h : o = some .cell) : (o == some .cell) = true := by rw [h]; rfl
mutual
theorem ev_ok {st : Sta} : ∀ (ce : CE) {sc : Scope} {c : Cfg} {e : Ent} {W : WX} {X : Cx} (ok : CxOk st sc c e W X) (x : Expr), chk st sc ce x = true → PE X x (tE X.K X.mg W e (ev c ce))
  | .var i, sc, c, e, W, X, ok, x, h => by
    cases x <;> first | (simp only [chk, Bool.and_eq_true, decide_eq_true_eq] at h; exact d_var ok h.1 h.2) | (exact absurd h (by simp [chk]))
  | .glo y, sc, c, e, W, X, ok, x, h => by
    cases x <;> first | (simp only [chk, Bool.and_eq_true, beq_iff_eq] at h; obtain ⟨rfl, h⟩ := h; exact d_glo ok h) | (exact absurd h (by simp [chk]))
  | .int i, sc, c, e, W, X, ok, x, h => by
    cases x with
    | Constant v j pos =>
      cases v <;> first | (simp only [chk, beq_iff_eq] at h; subst h; exact d_int) | (exact absurd h (by simp [chk]))
    | _ => exact absurd h (by simp [chk])
  | .str y, sc, c, e, W, X, ok, x, h => by
    cases x with
    | Constant v j pos =>
      cases v <;> first | (simp only [chk, beq_iff_eq] at h; subst h; exact d_str) | (exact absurd h (by simp [chk]))
    | _ => exact absurd h (by simp [chk])
  | .bl b, sc, c, e, W, X, ok, x, h => by
    cases x with
    | Constant v j pos =>
      cases v <;> first | (simp only [chk, beq_iff_eq] at h; subst h; exact d_bl) | (exact absurd h (by simp [chk]))
    | _ => exact absurd h (by simp [chk])
  | .non, sc, c, e, W, X, ok, x, h => by
    cases x with
    | Constant v j pos =>
      cases v <;> first | exact d_non | (exact absurd h (by simp [chk]))
    | _ => exact absurd h (by simp [chk])
  | .bin o a b, sc, c, e, W, X, ok, x, h => by
    cases x with
    | BinOp y op z pos =>
      simp only [chk, Bool.and_eq_true, decide_eq_true_eq] at h
      obtain ⟨⟨rfl, h1⟩, h2⟩ := h
      exact d_bin ok o (ev_ok a ok y h1) (ev_ok b ok z h2)
    | _ => exact absurd h (by simp [chk])
  | .neg a, sc, c, e, W, X, ok, x, h => by
    cases x with
    | UnaryOp op y pos =>
      cases op <;> first | (simp only [chk] at h; exact de_un un_neg und_neg (ev_ok a ok y h)) | (exact absurd h (by simp [chk]))
    | _ => exact absurd h (by simp [chk])
  | .cmp o a b, sc, c, e, W, X, ok, x, h => by
    unfold chk at h
    split at h
    · simp only [Bool.and_eq_true, decide_eq_true_eq] at h
      obtain ⟨⟨⟨rfl, h0⟩, h1⟩, h2⟩ := h
      exact d_cmp ok o h0 (ev_ok a ok _ h1) (ev_ok b ok _ h2)
    · cases h
  | .chain o o' a b z, sc, c, e, W, X, ok, x, h => by
    unfold chk at h
    split at h
    · simp only [Bool.and_eq_true, decide_eq_true_eq] at h
      obtain ⟨⟨⟨⟨⟨⟨rfl, rfl⟩, h3⟩, h4⟩, h1⟩, h2⟩, h5⟩ := h
      exact d_chain ok o o' h3 h4 (ev_ok a ok _ h1) (ev_ok b ok _ h2) (ev_ok z ok _ h5)
    · cases h
  | .chain3 o o' o'' a b z u, sc, c, e, W, X, ok, x, h => by
    unfold chk at h
    split at h
    · simp only [Bool.and_eq_true, decide_eq_true_eq] at h
      obtain ⟨⟨⟨⟨⟨⟨⟨⟨⟨rfl, rfl⟩, rfl⟩, h3⟩, h4⟩, h5⟩, h1⟩, h2⟩, h6⟩, h7⟩ := h
      exact d_chain3 ok o o' o'' h3 h4 h5 (ev_ok a ok _ h1) (ev_ok b ok _ h2) (ev_ok z ok _ h6) (ev_ok u ok _ h7)
    · cases h
  | .lend f a i b, sc, c, e, W, X, ok, x, h => by
    unfold chk at h
    split at h
    · simp only [Bool.and_eq_true, beq_iff_eq, decide_eq_true_eq] at h
      obtain ⟨⟨⟨⟨⟨⟨⟨⟨⟨rfl, h1⟩, h2⟩, hmt⟩, h3⟩, h4⟩, h5⟩, h6⟩, h7⟩, h8⟩ := h
      have h2' : st.fns.lookup f = some .pl := by
        split at h2
        · assumption
        · cases h2
      exact d_lend ok h1 h2' hmt h3 h4 h5 h6 (ev_ok a ok _ h7) (ev_ok b ok _ h8)
    · cases h
  | .cnt a b, sc, c, e, W, X, ok, x, h => by
    unfold chk at h
    split at h
    · simp only [Bool.and_eq_true, beq_iff_eq] at h
      obtain ⟨⟨⟨⟨rfl, h1⟩, h2⟩, h3⟩, h4⟩ := h
      exact d_cnt ok (by simpa using h1) h2 (ev_ok a ok _ h3) (ev_ok b ok _ h4)
    · cases h
  | .and_ a b, sc, c, e, W, X, ok, x, h => by
    unfold chk at h
    split at h
    · rw [Bool.and_eq_true] at h
      exact d_and (ev_ok a ok _ h.1) (d_one (ev_ok b ok _ h.2))
    · rw [Bool.and_eq_true] at h
      exact d_and (ev_ok a ok _ h.1) (ev_ok b ok _ h.2)
    · cases h
  | .or_ a b, sc, c, e, W, X, ok, x, h => by
    unfold chk at h
    split at h
    · rw [Bool.and_eq_true] at h
      exact d_or (ev_ok a ok _ h.1) (d_one (ev_ok b ok _ h.2))
    · rw [Bool.and_eq_true] at h
      exact d_or (ev_ok a ok _ h.1) (ev_ok b ok _ h.2)
    · cases h
  | .orV a b, sc, c, e, W, X, ok, x, h => by
    unfold chk at h
    split at h
    · rw [Bool.and_eq_true] at h
      exact d_orV (ev_ok a ok _ h.1) (d_one (ev_ok b ok _ h.2))
    · rw [Bool.and_eq_true] at h
      exact d_orV (ev_ok a ok _ h.1) (ev_ok b ok _ h.2)
    · cases h
  | .not_ a, sc, c, e, W, X, ok, x, h => by
    unfold chk at h
    split at h
    · exact d_not (ev_ok a ok _ h)
    · cases h
  | .ite t a b, sc, c, e, W, X, ok, x, h => by
    unfold chk at h
    split at h
    · simp only [Bool.and_eq_true] at h
      exact d_ite (evT_ok t ok _ h.1.1) (ev_ok a ok _ h.1.2) (ev_ok b ok _ h.2)
    · cases h
  | .tup es, sc, c, e, W, X, ok, x, h => by
    unfold chk at h
    split at h
    · exact d_tup (evs_ok es ok _ h)
    · cases h
  | .fr f, sc, c, e, W, X, ok, x, h => by
    unfold chk at h
    exact (evF_ok f ok x h).mono fun σ H Q h => tE_of_tF h
  | .call f es, sc, c, e, W, X, ok, x, h => by
    unfold chk at h
    split at h
    · rename_i g _ y ys _
      simp only [Bool.and_eq_true, beq_iff_eq] at h
      obtain ⟨⟨⟨⟨rfl, h1⟩, h2⟩, hmt⟩, h3⟩ := h
      have h2' : st.fns.lookup f = some .pl := by
        split at h2
        · assumption
        · cases h2
      cases es with
      | nil => simp [chks] at h3
      | cons a r =>
        have h4 := h3
        simp only [chks, Bool.and_eq_true] at h4
        exact d_call ok h1 h2' hmt h4.1.1 (hpl_of h4.2) (evs_ok (.cons a r) ok _ h3)
    · cases h
  | .fld cls i f, sc, c, e, W, X, ok, x, h => by
    unfold chk at h
    split at h
    · simp only [Bool.and_eq_true, beq_iff_eq, decide_eq_true_eq] at h
      obtain ⟨⟨⟨rfl, h1⟩, h2⟩, h3⟩ := h
      exact d_fld ok h1 h2 h3
    · cases h
  | .meth cls m f i es, sc, c, e, W, X, ok, x, h => by
    unfold chk at h
    split at h
    · simp only [Bool.and_eq_true, beq_iff_eq, decide_eq_true_eq] at h
      obtain ⟨⟨⟨⟨⟨⟨⟨rfl, h1⟩, h2⟩, h3⟩, h4⟩, h5⟩, h6⟩, h7⟩ := h
      have hl := beq_iff_eq.mpr h1
      cases es with
      | nil =>
        rename_i xs _
        cases xs with
        | nil => exact d_meth0 ok hl h2 h3 h4 h5
        | cons y ys => simp [chks] at h7
      | cons a r =>
        rename_i xs _
        cases xs with
        | nil => simp [chks] at h7
        | cons y ys =>
          have h8 := h7
          simp only [chks, Bool.and_eq_true] at h8
          exact d_meth ok hl h2 h3 h4 h5 h8.1.1 (form_of h7 h6) (hpl_of h8.2) (evs_ok (.cons a r) ok _ h7)
    · cases h
  | .callIO f i es, sc, c, e, W, X, ok, x, h => by
    unfold chk at h
    split at h
    · simp only [Bool.and_eq_true, beq_iff_eq, decide_eq_true_eq] at h
      obtain ⟨⟨⟨⟨⟨⟨rfl, h1⟩, h2⟩, hmt⟩, h3⟩, h4⟩, h5⟩ := h
      have h2' : st.fns.lookup f = some .io := by
        split at h2
        · assumption
        · cases h2
      exact d_callIO ok h1 h2' hmt h3 h4 (hpl_of h5) (evs_ok es ok _ h5)
    · cases h
  | .bf b es, sc, c, e, W, X, ok, x, h => by
    unfold chk at h
    split at h
    · simp only [Bool.and_eq_true, beq_iff_eq] at h
      obtain ⟨⟨⟨rfl, h1⟩, h2⟩, h3⟩ := h
      cases es with
      | nil => simp [chks] at h3
      | cons a r =>
        have h4 := h3
        simp only [chks, Bool.and_eq_true] at h4
        exact d_bf ok b h1 h2 h4.1.1 (hpl_of h4.2) (evs_ok (.cons a r) ok _ h3)
    · cases h
  | .isi a ty, sc, c, e, W, X, ok, x, h => by
    unfold chk at h
    split at h
    · simp only [Bool.and_eq_true, beq_iff_eq, decide_eq_true_eq] at h
      obtain ⟨⟨⟨⟨⟨⟨⟨⟨rfl, h1⟩, h2⟩, rfl⟩, h3⟩, h4⟩, h5⟩, h6⟩, h7⟩ := h
      exact d_isi ok h1 h2 h3 h4 h6 h5 (ev_ok a ok _ h7)
    · cases h
  | .item a b, sc, c, e, W, X, ok, x, h => by
    unfold chk at h
    split at h
    · simp only [Bool.and_eq_true] at h
      exact d_item h.1.1 (ev_ok a ok _ h.1.2) (ev_ok b ok _ h.2)
    · cases h
  | .itemO i b, sc, c, e, W, X, ok, x, h => by
    unfold chk at h
    split at h
    · simp only [Bool.and_eq_true, decide_eq_true_eq] at h
      exact d_itemO ok h.1.1.1 h.1.1.2 h.1.2 (ev_ok b ok _ h.2)
    · cases h
  | .lenO i, sc, c, e, W, X, ok, x, h => by
    unfold chk at h
    split at h
    · simp only [Bool.and_eq_true, beq_iff_eq, decide_eq_true_eq] at h
      obtain ⟨⟨⟨⟨rfl, h1⟩, h2⟩, h3⟩, h4⟩ := h
      exact d_lenO ok h3 h4 h1 h2
    · cases h
  | .inO neg a i, sc, c, e, W, X, ok, x, h => by
    unfold chk at h
    split at h
    · simp only [Bool.and_eq_true, decide_eq_true_eq] at h
      obtain ⟨⟨⟨rfl, h1⟩, h2⟩, h3⟩ := h
      exact d_inO ok neg h1 h2 (ev_ok a ok _ h3)
    · cases h
  | .getD i b, sc, c, e, W, X, ok, x, h => by
    unfold chk at h
    split at h
    · simp only [Bool.and_eq_true, decide_eq_true_eq] at h
      obtain ⟨⟨⟨h1, h2⟩, h3⟩, h4⟩ := h
      exact d_getD ok h1 h2 h3 (ev_ok b ok _ h4)
    · cases h
  | .hasD neg a i, sc, c, e, W, X, ok, x, h => by
    unfold chk at h
    split at h
    · simp only [Bool.and_eq_true, decide_eq_true_eq] at h
      obtain ⟨⟨⟨rfl, h1⟩, h2⟩, h3⟩ := h
      exact d_hasD ok neg h1 h2 (ev_ok a ok _ h3)
    · cases h
  | .orD i b z, sc, c, e, W, X, ok, x, h => by
    unfold chk at h
    split at h
    · simp only [Bool.and_eq_true, decide_eq_true_eq, beq_iff_eq] at h
      obtain ⟨⟨⟨⟨⟨⟨⟨rfl, h0⟩, h1⟩, h2⟩, h3⟩, h4⟩, h5⟩, h6⟩ := h
      exact d_orD ok (beq_iff_eq.mpr h0) h1 h2 h3 h4 (ev_ok b ok _ h5) (ev_ok z ok _ h6)
    · cases h
  | .lenset a, sc, c, e, W, X, ok, x, h => by
    unfold chk at h
    split at h
    · simp only [Bool.and_eq_true, beq_iff_eq] at h
      obtain ⟨⟨⟨⟨⟨⟨⟨rfl, rfl⟩, h1⟩, h2⟩, h3⟩, h4⟩, h5⟩, h6⟩ := h
      exact d_lenset ok h1 h2 h3 h4 h5 (ev_ok a ok _ h6)
    · cases h
  | .rev a, sc, c, e, W, X, ok, x, h => by
    unfold chk at h
    split at h
    · exact d_rev (ev_ok a ok _ h)
    · cases h
  | .slice a lo hi, sc, c, e, W, X, ok, x, h => by
    unfold chk at h
    split at h
    · simp only [Bool.and_eq_true] at h
      exact d_slice (ev_ok a ok _ h.1.1) (evO_ok lo ok _ h.1.2) (evO_ok hi ok _ h.2)
    · cases h
  | .qnt stp own t it cc elt, sc, c, e, W, X, ok, x, h => by
    unfold chk at h
    split at h
    · rename_i g p y tg iter ifs scope gpos pos
      simp only [Bool.and_eq_true, beq_iff_eq] at h
      obtain ⟨⟨⟨⟨⟨⟨⟨⟨⟨⟨⟨⟨⟨hgx, hlm⟩, rfl⟩, h1⟩, h2⟩, h3⟩, h4⟩, h5⟩, h6⟩, h7⟩, h8⟩, h9⟩, h10⟩, h11⟩ := h
      obtain ⟨hr, cd, P, hcd, TB, hT, hq⟩ := ok.tab hgx
      rw [Bool.not_eq_true'] at hlm
      rw [hlm] at hq
      obtain ⟨g1, g2, g3⟩ := gl_of ok.sc h1
      obtain ⟨b1, b2, b3⟩ := genScB_of h3
      have hsl : ∀ i ∈ t.slots, i ∈ own.map (·.2) := fun i hi => by
        have := List.all_eq_true.mp h9 i hi
        simpa using this
      have hi := evI_ok it ok _ _ h7
      have hg : ∀ (s : Shared) (H : Hp) (C : Addr) (code : Value) (fp : List Addr), PG (genCx X (genA X (gEnv X scope C code)) s H (gEnv X scope C code) fp) tg (exG X.K e.M e.T t.slots (bindG c t)) := fun s H C code fp =>
        ⟨fun pins s' σ H' v u Q I r ⟨e', he', h⟩ => (dg_of (gen_ok (c := c) ok hr he') (raw := scope) (fun y hy => absurd rfl (b2 _ (PySem.mem_of_lookup hy))) h8).run pins s' σ H' v u Q I r h⟩
      have ht : ∀ (s : Shared) (H : Hp) (C : Addr) (code : Value) (fp : List Addr), PTs (genCx X (genA X (gEnv X scope C code)) s H (gEnv X scope C code) fp) ifs (exB X.K X.mg W0 e.M e.T (evC c cc)) := fun s H C code fp =>
        ⟨fun pins s' σ H' Q I ⟨e', he', h⟩ => (evC_ok cc (gen_ok (c := c) (e' := e') ok hr he') ifs h10).run pins s' σ H' Q I h⟩
      have he : ∀ (s : Shared) (H : Hp) (C : Addr) (code : Value) (fp : List Addr), PE (genCx X (genA X (gEnv X scope C code)) s H (gEnv X scope C code) fp) y (exE X.K X.mg W0 e.M e.T (ev c elt)) := fun s H C code fp =>
        ⟨fun pins s' σ H' Q I ⟨e', he', h⟩ => (ev_ok elt (gen_ok (c := c) (e' := e') ok hr he') y h11).run pins s' σ H' Q I h⟩
      exact (pe_quant (own := own) stp hr g1 (ok.bl _ h2) TB hcd ok.nd hi (blkOk_by (by rw [ok.N, ok.sc]; exact h4)) b1 b2 b3 hg ht he (fold_of h5 h6)).mono (d_qnt ok (own := own) hT hq hsl)
    · cases h
theorem evT_ok {st : Sta} : ∀ (t : CT) {sc : Scope} {c : Cfg} {e : Ent} {W : WX} {X : Cx} (ok : CxOk st sc c e W X) (x : Expr), chkT st sc t x = true → PT X x (tB X.K X.mg W e (evT c t))
  | .val a, sc, c, e, W, X, ok, x, h => by
    unfold chkT at h
    rw [Bool.and_eq_true] at h
    exact dt_val h.1 (ev_ok a ok _ h.2)
  | .cmp o a b, sc, c, e, W, X, ok, x, h => by
    unfold chkT at h
    split at h
    · simp only [Bool.and_eq_true, decide_eq_true_eq] at h
      obtain ⟨⟨⟨rfl, h0⟩, h1⟩, h2⟩ := h
      exact dt_cmp ok o h0 (ev_ok a ok _ h1) (ev_ok b ok _ h2)
    · cases h
  | .chain o o' a b z, sc, c, e, W, X, ok, x, h => by
    unfold chkT at h
    split at h
    · simp only [Bool.and_eq_true, decide_eq_true_eq] at h
      obtain ⟨⟨⟨⟨⟨⟨rfl, rfl⟩, h3⟩, h4⟩, h1⟩, h2⟩, h5⟩ := h
      exact dt_chain ok o o' h3 h4 (ev_ok a ok _ h1) (ev_ok b ok _ h2) (ev_ok z ok _ h5)
    · cases h
  | .chain3 o o' o'' a b z u, sc, c, e, W, X, ok, x, h => by
    unfold chkT at h
    split at h
    · simp only [Bool.and_eq_true, decide_eq_true_eq] at h
      obtain ⟨⟨⟨⟨⟨⟨⟨⟨⟨rfl, rfl⟩, rfl⟩, h3⟩, h4⟩, h5⟩, h1⟩, h2⟩, h6⟩, h7⟩ := h
      exact dt_chain3 ok o o' o'' h3 h4 h5 (ev_ok a ok _ h1) (ev_ok b ok _ h2) (ev_ok z ok _ h6) (ev_ok u ok _ h7)
    · cases h
  | .not_ t, sc, c, e, W, X, ok, x, h => by
    unfold chkT at h
    split at h
    · exact dt_not (evT_ok t ok _ h)
    · cases h
  | .and_ a b, sc, c, e, W, X, ok, x, h => by
    unfold chkT at h
    split at h
    · rw [Bool.and_eq_true] at h
      exact (dw_and (evT_ok a ok _ h.1) (dw_one (evT_ok b ok _ h.2))).pt
    · rw [Bool.and_eq_true] at h
      exact (dw_and (evT_ok a ok _ h.1) (evW_ok b ok _ _ _ h.2)).pt
    · cases h
  | .or_ a b, sc, c, e, W, X, ok, x, h => by
    unfold chkT at h
    split at h
    · rw [Bool.and_eq_true] at h
      exact (dw_or (evT_ok a ok _ h.1) (dw_one (evT_ok b ok _ h.2))).pt
    · rw [Bool.and_eq_true] at h
      exact (dw_or (evT_ok a ok _ h.1) (evW_ok b ok _ _ _ h.2)).pt
    · cases h
  | .inO neg a i, sc, c, e, W, X, ok, x, h => by
    unfold chkT at h
    split at h
    · simp only [Bool.and_eq_true, decide_eq_true_eq] at h
      obtain ⟨⟨⟨rfl, h1⟩, h2⟩, h3⟩ := h
      exact dt_inO ok neg h1 h2 (ev_ok a ok _ h3)
    · cases h
  | .hasD neg a i, sc, c, e, W, X, ok, x, h => by
    unfold chkT at h
    split at h
    · simp only [Bool.and_eq_true, decide_eq_true_eq] at h
      obtain ⟨⟨⟨rfl, h1⟩, h2⟩, h3⟩ := h
      exact dt_hasD ok neg h1 h2 (ev_ok a ok _ h3)
    · cases h
theorem evW_ok {st : Sta} : ∀ (t : CT) {sc : Scope} {c : Cfg} {e : Ent} {W : WX} {X : Cx} (ok : CxOk st sc c e W X) (op : BoolOp) (vs : List Expr) (pos : Pos), chkT st sc t (.BoolOp op vs pos) = true → PW X (.BoolOp op vs pos) (tB X.K X.mg W e (evT c t))
  | .val a, sc, c, e, W, X, ok, op, vs, pos, h => by simp [chkT, plainT] at h
  | .cmp o a b, sc, c, e, W, X, ok, op, vs, pos, h => by simp [chkT] at h
  | .chain o o' a b z, sc, c, e, W, X, ok, op, vs, pos, h => by simp [chkT] at h
  | .chain3 o o' o'' a b z u, sc, c, e, W, X, ok, op, vs, pos, h => by simp [chkT] at h
  | .not_ t, sc, c, e, W, X, ok, op, vs, pos, h => by simp [chkT] at h
  | .inO neg a i, sc, c, e, W, X, ok, op, vs, pos, h => by simp [chkT] at h
  | .hasD neg a i, sc, c, e, W, X, ok, op, vs, pos, h => by simp [chkT] at h
  | .and_ a b, sc, c, e, W, X, ok, op, vs, pos, h => by
    unfold chkT at h
    split at h
    · rename_i he
      cases he
      rw [Bool.and_eq_true] at h
      exact dw_and (evT_ok a ok _ h.1) (dw_one (evT_ok b ok _ h.2))
    · rename_i he
      cases he
      rw [Bool.and_eq_true] at h
      exact dw_and (evT_ok a ok _ h.1) (evW_ok b ok _ _ _ h.2)
    · cases h
  | .or_ a b, sc, c, e, W, X, ok, op, vs, pos, h => by
    unfold chkT at h
    split at h
    · rename_i he
      cases he
      rw [Bool.and_eq_true] at h
      exact dw_or (evT_ok a ok _ h.1) (dw_one (evT_ok b ok _ h.2))
    · rename_i he
      cases he
      rw [Bool.and_eq_true] at h
      exact dw_or (evT_ok a ok _ h.1) (evW_ok b ok _ _ _ h.2)
    · cases h
theorem evF_ok {st : Sta} : ∀ (f : CF) {sc : Scope} {c : Cfg} {e : Ent} {W : WX} {X : Cx} (ok : CxOk st sc c e W X) (x : Expr), chkF st sc f x = true → PE X x (tF X.K X.mg W e (evF c f))
  | .lst es, sc, c, e, W, X, ok, x, h => by
    unfold chkF at h
    split at h
    · exact d_lst (evs_ok es ok _ h)
    · cases h
  | .cat a b, sc, c, e, W, X, ok, x, h => by
    unfold chkF at h
    split at h
    · rw [Bool.and_eq_true] at h
      exact d_cat (ev_ok a ok _ h.1) (ev_ok b ok _ h.2)
    · cases h
  | .dnew, sc, c, e, W, X, ok, x, h => by
    unfold chkF at h
    split at h
    · exact d_dnew
    · cases h
  | .listO i, sc, c, e, W, X, ok, x, h => by
    unfold chkF at h
    split at h
    · simp only [Bool.and_eq_true, beq_iff_eq, decide_eq_true_eq] at h
      obtain ⟨⟨⟨⟨rfl, h1⟩, h2⟩, h3⟩, h4⟩ := h
      exact d_listO ok h1 h2 h3 h4
    · cases h
  | .keysD i, sc, c, e, W, X, ok, x, h => by
    unfold chkF at h
    split at h
    · simp only [Bool.and_eq_true, beq_iff_eq, decide_eq_true_eq] at h
      obtain ⟨⟨⟨⟨rfl, h1⟩, h2⟩, h3⟩, h4⟩ := h
      exact d_keysD ok h1 h2 h3 h4
    · cases h
  | .sortD i, sc, c, e, W, X, ok, x, h => by
    unfold chkF at h
    split at h
    · simp only [Bool.and_eq_true, beq_iff_eq, decide_eq_true_eq] at h
      obtain ⟨⟨⟨⟨rfl, h1⟩, h2⟩, h3⟩, h4⟩ := h
      exact d_sortDc ok h1 h2 h3 h4
    · cases h
  | .give i, sc, c, e, W, X, ok, x, h => by
    unfold chkF at h
    split at h
    · simp only [Bool.and_eq_true, decide_eq_true_eq] at h
      exact d_give ok h.1 h.2
    · cases h
  | .lcP own i t cc elt, sc, c, e, W, X, ok, x, h => by
    unfold chkF at h
    split at h
    · rename_i y elts kk tp v vp m p2 p3 ifs scope pos
      simp only [Bool.and_eq_true, decide_eq_true_eq, beq_iff_eq] at h
      obtain ⟨⟨⟨⟨⟨⟨⟨⟨h1, rfl⟩, hl⟩, h2⟩, h3⟩, h4⟩, h5⟩, h6⟩, h7⟩ := h
      have hb : blkC X.N X.env.scope scope own = true := by rw [ok.N, ok.sc]; exact h1
      have hsl : ∀ i ∈ t.slots, i ∈ own.map (·.2) := fun i hi => by
        have := List.all_eq_true.mp h5 i hi
        simpa using this
      exact (pe_lock (pe_lcX (g := exG X.K e.M e.T t.slots (bindG c t)) (tt := fun σ => exB X.K X.mg (Wat W σ) e.M e.T (evC c cc)) (te := fun σ => exE X.K X.mg (Wat W σ) e.M e.T (ev c elt)) ok.calm ok.nd (pi_p ok h2 h3 (beq_iff_eq.mpr hl)) (blkOk_by hb) (fun pins σ s H cl fp bg =>
        ⟨⟨fun pins s' σ H' v u Q I r ⟨e', he', h⟩ => (dg_of (blk_ok (c := c) ok he' bg) (raw := scope) (fun y hy => beq_cell hy) h4).run pins s' σ H' v u Q I r h⟩,
        ⟨fun pins s' σ H' Q I ⟨e', he', h⟩ => (evC_ok cc (blk_ok (c := c) (e' := e') ok he' bg) ifs h6).run pins s' σ H' Q I h⟩,
        ⟨fun pins s' σ H' Q I ⟨e', he', h⟩ => (ev_ok elt (blk_ok (c := c) (e' := e') ok he' bg) y h7).run pins s' σ H' Q I h⟩⟩) (folded_of rfl))).mono fun σ H Q h => d_lcP ok hsl σ H Q h
    · cases h
  | .lcD own i t cc elt, sc, c, e, W, X, ok, x, h => by
    unfold chkF at h
    split at h
    · rename_i y tg v vp ifs scope pos
      simp only [Bool.and_eq_true, decide_eq_true_eq] at h
      obtain ⟨⟨⟨⟨⟨⟨h1, h2⟩, h3⟩, h4⟩, h5⟩, h6⟩, h7⟩ := h
      have hb : blkC X.N X.env.scope scope own = true := by rw [ok.N, ok.sc]; exact h1
      have hsl : ∀ i ∈ t.slots, i ∈ own.map (·.2) := fun i hi => by
        have := List.all_eq_true.mp h5 i hi
        simpa using this
      exact (pe_lock (pe_lcX (g := exG X.K e.M e.T t.slots (bindG c t)) (tt := fun σ => exB X.K X.mg (Wat W σ) e.M e.T (evC c cc)) (te := fun σ => exE X.K X.mg (Wat W σ) e.M e.T (ev c elt)) ok.calm ok.nd (pi_w ok h2 h3) (blkOk_by hb) (fun pins σ s H cl fp bg =>
        ⟨⟨fun pins s' σ H' v u Q I r ⟨e', he', h⟩ => (dg_of (blk_ok (c := c) ok he' bg) (raw := scope) (fun y hy => beq_cell hy) h4).run pins s' σ H' v u Q I r h⟩,
        ⟨fun pins s' σ H' Q I ⟨e', he', h⟩ => (evC_ok cc (blk_ok (c := c) (e' := e') ok he' bg) ifs h6).run pins s' σ H' Q I h⟩,
        ⟨fun pins s' σ H' Q I ⟨e', he', h⟩ => (ev_ok elt (blk_ok (c := c) (e' := e') ok he' bg) y h7).run pins s' σ H' Q I h⟩⟩) (folded_of rfl))).mono fun σ H Q h => d_lcD ok hsl σ H Q h
    · cases h
  | .lc2 own t it t1 it1 elt, sc, c, e, W, X, ok, x, h => by
    unfold chkF at h
    split at h
    · rename_i y tg iter tg1 iter1 scope pos
      simp only [Bool.and_eq_true] at h
      obtain ⟨⟨⟨⟨⟨⟨⟨⟨⟨h1, h2⟩, h3⟩, h4⟩, h5⟩, h6⟩, h7⟩, h8⟩, h9⟩, h10⟩ := h
      have hb : blkC X.N X.env.scope scope own = true := by rw [ok.N, ok.sc]; exact h1
      have all : ∀ {l : List Nat}, (l.all fun i => (own.map (·.2)).contains i) = true → ∀ i ∈ l, i ∈ own.map (·.2) := fun h i hi => by
        have := List.all_eq_true.mp h i hi
        simpa using this
      exact (pe_lc2 (vs1 := t1.slots) (g := exG X.K e.M e.T t.slots (bindG c t)) (tt := tYes) (wi1 := exI X.K X.mg W0 e.M e.T (evI c it1)) (g1 := exG X.K e.M e.T t1.slots (bindG c t1)) (tt1 := tYes) (te := exE X.K X.mg W0 e.M e.T (ev c elt)) ok.calm ok.nd (evI_ok it ok _ _ h4) (blkOk_by hb) (all h9)
        (fun s H C cl fp => ⟨fun pins s' σ H' v u Q I r ⟨e', he', h⟩ => (dg_of (blk0_ok (c := c) ok he') (raw := scope) (fun y hy => beq_cell hy) h5).run pins s' σ H' v u Q I r h⟩) (fun s H C cl fp => pts_nil)
        (fun s H C cl fp => ⟨fun pins s' σ H' Q I ⟨e', he', h⟩ => (evI_ok it1 (blk0_ok (c := c) (e' := e') ok he') tg1 iter1 h7).run pins s' σ H' Q I h⟩)
        (fun s H C cl fp => ⟨fun pins s' σ H' v u Q I r ⟨e', he', h⟩ => (dg_of (blk0_ok (c := c) ok he') (raw := scope) (fun y hy => beq_cell hy) h8).run pins s' σ H' v u Q I r h⟩) (fun s H C cl fp => pts_nil)
        (fun s H C cl fp => ⟨fun pins s' σ H' Q I ⟨e', he', h⟩ => (ev_ok elt (blk0_ok (c := c) (e' := e') ok he') y h10).run pins s' σ H' Q I h⟩) (folded_of h2) (fun env => folded_of h3)).mono (d_lc2 ok (all h6) (all h9))
    · cases h
  | .repE es a, sc, c, e, W, X, ok, x, h => by
    unfold chkF at h
    split at h
    · rw [Bool.and_eq_true] at h
      exact d_repE (evs_ok es ok _ h.1) (ev_ok a ok _ h.2)
    · cases h
  | .rep es k, sc, c, e, W, X, ok, x, h => by
    unfold chkF at h
    split at h
    · rw [Bool.and_eq_true, beq_iff_eq] at h
      obtain ⟨rfl, h⟩ := h
      exact d_rep (evs_ok es ok _ h)
    · cases h
  | .sortK ky y a, sc, c, e, W, X, ok, x, h => by
    unfold chkF at h
    split at h
    · simp only [Bool.and_eq_true, beq_iff_eq] at h
      obtain ⟨⟨⟨⟨⟨⟨⟨⟨⟨⟨rfl, rfl⟩, hgx, hlm⟩, rfl⟩, h1⟩, h2⟩, h3⟩, h4⟩, h5⟩, h6⟩, h7⟩ := h
      exact d_sortK ok hgx hlm h1 h2 h3 h4 h5 h6 (ev_ok a ok _ h7)
    · cases h
  | .bl b a, sc, c, e, W, X, ok, x, h => by
    unfold chkF at h
    split at h
    · simp only [Bool.and_eq_true, beq_iff_eq] at h
      obtain ⟨⟨⟨⟨rfl, h1⟩, h2⟩, h3⟩, h4⟩ := h
      cases b with
      | list1 => exact d_bl1 ok h1 h2 h3 (ev_ok a ok _ h4)
      | sorted1 => exact d_sort ok h1 h2 h3 (ev_ok a ok _ h4)
    · cases h
  | .call f es, sc, c, e, W, X, ok, x, h => by
    unfold chkF at h
    split at h
    · rename_i g _ y ys _
      simp only [Bool.and_eq_true, beq_iff_eq] at h
      obtain ⟨⟨⟨⟨rfl, h1⟩, h2⟩, hmt⟩, h3⟩ := h
      have h2' : st.fns.lookup f = some .fr := by
        split at h2
        · assumption
        · cases h2
      cases es with
      | nil => simp [chks] at h3
      | cons a r =>
        have h4 := h3
        simp only [chks, Bool.and_eq_true] at h4
        exact d_callF ok h1 h2' hmt h4.1.1 (hpl_of h4.2) (evs_ok (.cons a r) ok _ h3)
    · cases h
  | .lc own t it cc elt, sc, c, e, W, X, ok, x, h => by
    unfold chkF at h
    split at h
    · rename_i y tg iter ifs scope pos
      simp only [Bool.and_eq_true] at h
      obtain ⟨⟨⟨⟨⟨⟨h1, h2⟩, h3⟩, h4⟩, h5⟩, h6⟩, h7⟩ := h
      have hb : blkC X.N X.env.scope scope own = true := by rw [ok.N, ok.sc]; exact h1
      have hsl : ∀ i ∈ t.slots, i ∈ own.map (·.2) := fun i hi => by
        have := List.all_eq_true.mp h5 i hi
        simpa using this
      have hi := evI_ok it ok _ _ h3
      exact (pe_lcX (g := exG X.K e.M e.T t.slots (bindG c t)) (tt := fun σ => exB X.K X.mg (Wat W σ) e.M e.T (evC c cc)) (te := fun σ => exE X.K X.mg (Wat W σ) e.M e.T (ev c elt)) ok.calm ok.nd hi (blkOk_by hb) (fun pins σ s H cl fp bg =>
        ⟨⟨fun pins s' σ H' v u Q I r ⟨e', he', h⟩ => (dg_of (blk_ok (c := c) ok he' bg) (raw := scope) (fun y hy => beq_cell hy) h4).run pins s' σ H' v u Q I r h⟩,
        ⟨fun pins s' σ H' Q I ⟨e', he', h⟩ => (evC_ok cc (blk_ok (c := c) (e' := e') ok he' bg) ifs h6).run pins s' σ H' Q I h⟩,
        ⟨fun pins s' σ H' Q I ⟨e', he', h⟩ => (ev_ok elt (blk_ok (c := c) (e' := e') ok he' bg) y h7).run pins s' σ H' Q I h⟩⟩) (folded_of h2)).mono (d_lc ok hsl)
    · cases h
theorem evI_ok {st : Sta} : ∀ (it : CI) {sc : Scope} {c : Cfg} {e : Ent} {W : WX} {X : Cx} (ok : CxOk st sc c e W X) (tg x : Expr), chkI st sc it tg x = true → PI X tg x (tI X.K X.mg W e (evI c it))
  | .seq a, sc, c, e, W, X, ok, tg, x, h => by
    unfold chkI at h
    exact di_seq (ev_ok a ok _ h)
  | .rng1 a, sc, c, e, W, X, ok, tg, x, h => by
    unfold chkI at h
    split at h
    · simp only [Bool.and_eq_true, beq_iff_eq] at h
      obtain ⟨⟨⟨⟨rfl, h1⟩, h2⟩, h3⟩, h4⟩ := h
      exact di_rng1 ok h1 h2 h3 (ev_ok a ok _ h4)
    · cases h
  | .rng2 a b, sc, c, e, W, X, ok, tg, x, h => by
    unfold chkI at h
    split at h
    · simp only [Bool.and_eq_true, beq_iff_eq] at h
      obtain ⟨⟨⟨⟨⟨⟨rfl, h1⟩, h2⟩, h3⟩, h4⟩, h5⟩, h6⟩ := h
      exact di_rng2 ok h1 h2 h3 h4 (ev_ok a ok _ h5) (ev_ok b ok _ h6)
    · cases h
  | .zip a b, sc, c, e, W, X, ok, tg, x, h => by
    unfold chkI at h
    rw [Bool.and_eq_true] at h
    obtain ⟨ht, h⟩ := h
    cases tg <;> first | (simp [isTup] at ht; done) | skip
    split at h
    · simp only [Bool.and_eq_true, beq_iff_eq] at h
      obtain ⟨⟨⟨⟨⟨⟨rfl, h1⟩, h2⟩, h3⟩, h4⟩, h5⟩, h6⟩ := h
      exact di_zip ok h1 h2 h3 h4 (ev_ok a ok _ h5) (ev_ok b ok _ h6)
    · cases h
theorem evs_ok {st : Sta} : ∀ (es : CEs) {sc : Scope} {c : Cfg} {e : Ent} {W : WX} {X : Cx} (ok : CxOk st sc c e W X) (xs : List Expr), chks st sc es xs = true → PA X xs (tA X.K X.mg W e (evs c es))
  | .nil, sc, c, e, W, X, ok, xs, h => by
    cases xs with
    | nil => exact da_nil
    | cons y ys => simp [chks] at h
  | .cons a r, sc, c, e, W, X, ok, xs, h => by
    cases xs with
    | nil => simp [chks] at h
    | cons y ys =>
      simp only [chks, Bool.and_eq_true] at h
      exact da_cons h.1.1 (ev_ok a ok _ h.1.2) (evs_ok r ok _ h.2)
theorem evO_ok {st : Sta} : ∀ (o : CEo) {sc : Scope} {c : Cfg} {e : Ent} {W : WX} {X : Cx} (ok : CxOk st sc c e W X) (x : Option Expr), chkO st sc o x = true → PO X x (tPo X.K X.mg W e (evO c o))
  | .none, sc, c, e, W, X, ok, x, h => by
    cases x with
    | none => exact dp_none
    | some y => simp [chkO] at h
  | .some a, sc, c, e, W, X, ok, x, h => by
    cases x with
    | none => simp [chkO] at h
    | some y =>
      simp only [chkO] at h
      exact dp_some (ev_ok a ok _ h)
theorem evC_ok {st : Sta} : ∀ (o : CTo) {sc : Scope} {c : Cfg} {e : Ent} {W : WX} {X : Cx} (ok : CxOk st sc c e W X) (xs : List Expr), chkC st sc o xs = true → PTs X xs (tB X.K X.mg W e (evC c o))
  | .none, sc, c, e, W, X, ok, xs, h => by
    cases xs with
    | nil => exact ⟨fun pins s σ H Q I ⟨Z, S, sr, q⟩ => pts_nil.run pins s σ H Q I (q true Z H .refl sr rfl)⟩
    | cons y ys => simp [chkC] at h
  | .some t, sc, c, e, W, X, ok, xs, h => by
    cases xs with
    | nil => simp [chkC] at h
    | cons y ys =>
      cases ys with
      | nil =>
        simp only [chkC] at h
        exact pts_one (evT_ok t ok _ h)
      | cons z zs => simp [chkC] at h
end
end Dv

namespace Dv
open PySem PySem.Spec
/-- found.extend(xs): the second list may be an object with slots of its own -/
theorem ext_any {l b : Addr} {xs ys : List Value} {n : Nat} {o : Obj} (hc : o.cls = .type "list") {m : Nat} (hd : o.data = .seq ys.toArray m) (hz : xs.length + ys.length ≤ sizeLine) :
    Meets (Builtin.«list.extend» ⟨[.ref l, .ref b], []⟩) fun _ R s => (∃ x, x = Obj.mk (.type "list") none (.seq xs.toArray n) #[] ∧ s.heap.get? l = some x) ∧ s.heap.get? b = some o ∧ R (.ok (.ret .none)) { s with heap := s.heap.update l (Obj.mapSeq (· ++ ys.toArray)) } := by
  obtain ⟨c, d, dt, sl⟩ := o
  cases hc
  cases hd
  refine .of_wp fun prog w A R s => ?_
  rintro ⟨⟨_, rfl, h1⟩, h2, q⟩
  have k0 : xs.toArray.size + ys.toArray.size ≤ sizeLine := by simpa using hz
  generalize xs.toArray = xa at *
  generalize ys.toArray = ya at *
  have k1 : xa.size ≤ sizeLine := by omega
  have k2 : (xa ++ ya).size ≤ sizeLine + 1 := by rw [Array.size_append]; omega
  have k3 : ¬(!xa.isEmpty && Builtin.List.listTooLong (xa.size + ya.size)) = true := by
    have : Builtin.List.listTooLong (xa.size + ya.size) = false := by
      unfold Builtin.List.listTooLong
      exact decide_eq_false (by omega)
    rw [this, Bool.and_false]
    exact Bool.false_ne_true
  have t := AutoSeq1.sub_list_list
  have t2 := AutoSeq1.sub_list_tuple
  cases s
  wp_walk using (wpAny_updateSeq h1 rfl (hz := k1) (_hz' := k2)), wpAny_loadPart h1, wpAny_loadPart h2
  exact ⟨_, rfl, q⟩
end Dv

namespace Dv
open PySem PySem.Spec L2
/-- what follows a statement -/
def AftS (K : PySem.W.Frag) (mg : Str → Option Value) (W : WX) (e : Ent) (Z : Zn) (H : Hp) (r : Fl) (D : Ends) : Prop :=
  match r with
  | .nx S' => ∀ σ' Z' H', Step Z H Z' H' → SR K e Z' H' σ' S' → D.nx σ' H'
  | .bk S' => ∀ σ' Z' H', Step Z H Z' H' → SR K e Z' H' σ' S' → D.bk σ' H'
  | .ct S' => ∀ σ' Z' H', Step Z H Z' H' → SR K e Z' H' σ' S' → D.ct σ' H'
  | .rt d S' => ∀ v σ' Z' H', Step Z H Z' H' → SR K e Z' H' σ' S' → R K Z' H' v d → D.rt v H'
  | .rtF o S' => ∀ v σ' Z' H', Step Z H Z' H' → SR K e Z' H' σ' S' → RelF K e σ' Z' H' S' v o → D.rt v H'
  | .rtT a b o S' => ∀ v p q u1 u2 σ' Z' H', Step Z H Z' H' → SR K e Z' H' σ' S' → Tri K e Z' H' v a b o p q u1 u2 → D.rt v H'
  | .exc x S' => ∀ cls dd σ' Z' H', Step Z H Z' H' → SR K e Z' H' σ' S' → RX K mg Z' H' cls dd x → W cls dd σ' H'
  | .bad => False
def tS (K : PySem.W.Frag) (mg : Str → Option Value) (W : WX) (e : Ent) (f : Sto → Fl) : TS := fun D σ H => ∃ Z S, SR K e Z H σ S ∧ AftS K mg W e Z H (f S) D
/-- the code of a def's body -/
structure CxS (st : Sta) (sc : Scope) (c : Cfg) (e : Ent) (W : WX) (X : Cx) : Prop extends CxOk st sc c e W X where
  po : PassesOwn (model X.prog X.w) X.A X.env X.xe
  fn : ∀ x, X.fn x = true
  tk : Takes X W
  hs : X.stack = X.env :: X.outer
  hf : X.env.frame = some X.env.locals
  xs : ∀ cls ps, st.exs.lookup cls = some ps → XcOk X.prog X.K X.mg cls ps
  rm1 : Room (2 * c.run.length + 1) X.A
section
variable {K : PySem.W.Frag} {mg : Str → Option Value} {W : WX} {e : Ent} {Z Z1 : Zn} {H H1 : Hp} {σ : L2.St}
theorem AftS.step {r : Fl} {D : Ends} (s : Step Z H Z1 H1) (h : AftS K mg W e Z H r D) : AftS K mg W e Z1 H1 r D := by
  cases r with
  | nx S => exact fun σ' Z' H' s' => h σ' Z' H' (s.trans s')
  | bk S => exact fun σ' Z' H' s' => h σ' Z' H' (s.trans s')
  | ct S => exact fun σ' Z' H' s' => h σ' Z' H' (s.trans s')
  | rt d S => exact fun v σ' Z' H' s' => h v σ' Z' H' (s.trans s')
  | rtF d S => exact fun v σ' Z' H' s' => h v σ' Z' H' (s.trans s')
  | rtT a b o S => exact fun v p q u1 u2 σ' Z' H' s' => h v p q u1 u2 σ' Z' H' (s.trans s')
  | exc x S => exact fun a b σ' Z' H' s' => h a b σ' Z' H' (s.trans s')
  | bad => exact h
theorem AftS.ends {r : Fl} {D D' : Ends} (h : AftS K mg W e Z H r D) (h1 : ∀ σ H, D.nx σ H → D'.nx σ H) (h2 : ∀ v H, D.rt v H → D'.rt v H) (h3 : ∀ σ H, D.bk σ H → D'.bk σ H) (h4 : ∀ σ H, D.ct σ H → D'.ct σ H) : AftS K mg W e Z H r D' := by
  cases r with
  | nx S => exact fun σ' Z' H' s' sr => h1 _ _ (h σ' Z' H' s' sr)
  | bk S => exact fun σ' Z' H' s' sr => h3 _ _ (h σ' Z' H' s' sr)
  | ct S => exact fun σ' Z' H' s' sr => h4 _ _ (h σ' Z' H' s' sr)
  | rt d S => exact fun v σ' Z' H' s' sr rv => h2 _ _ (h v σ' Z' H' s' sr rv)
  | rtF d S => exact fun v σ' Z' H' s' sr rv => h2 _ _ (h v σ' Z' H' s' sr rv)
  | rtT a b o S => exact fun v p q u1 u2 σ' Z' H' s' sr rv => h2 _ _ (h v p q u1 u2 σ' Z' H' s' sr rv)
  | exc x S => exact h
  | bad => exact h
/-- an expression ahead of a statement -/
theorem AftS.fl {α β : Type} {r : Res α} {g : α → Sto → Fl} {Rel : Zn → Hp → Sto → β → α → Prop} {D : Ends} (h : AftS K mg W e Z H (r.fl g) D) :
    Aft K mg W e Z H σ r Rel fun v H1 => ∃ Z1 a S1, r = .ok a S1 ∧ Step Z H Z1 H1 ∧ SR K e Z1 H1 σ S1 ∧ Rel Z1 H1 S1 v a ∧ AftS K mg W e Z1 H1 (g a S1) D := by
  cases r with
  | ok a S => exact fun v Z' H' s' sr rl => ⟨Z', a, S, rfl, s', sr, rl, AftS.step s' h⟩
  | exc x S => exact fun cls dd Z' H' s' sr rx => h cls dd σ Z' H' s' sr rx
  | bad => exact h
end
section
variable {st : Sta} {sc : Scope} {c : Cfg} {e : Ent} {W : WX} {X : Cx}
variable {fa fb : Sto → Res D} {ff : Sto → Res Ow} {ft : Sto → Res Bool} {fi : Sto → Res (List D)} {g1 g2 : Sto → Fl} {a b x tg iter : Expr} {es : List Expr} {xs ys : List Stmt} {s1 : Stmt} {pos p q : Pos}
theorem s_nil : PSs X [] (tS X.K X.mg W e fun S => .nx S) := pss_nil.mono fun D σ H ⟨Z, S, s, h⟩ => h σ Z H .refl s
theorem s_cons (h1 : PS X s1 (tS X.K X.mg W e g1)) (h2 : PSs X xs (tS X.K X.mg W e g2)) : PSs X (s1 :: xs) (tS X.K X.mg W e fun S => (g1 S).then g2) := by
  refine (pss_cons h1 h2).mono fun D σ H ⟨Z, S, s, h⟩ => ?_
  refine ⟨Z, S, s, ?_⟩
  dsimp only at h
  cases r : g1 S with
  | nx S1 => rw [r] at h; exact fun σ' Z' H' st' sr => ⟨Z', S1, sr, AftS.step st' h⟩
  | bk S1 => rw [r] at h; exact h
  | ct S1 => rw [r] at h; exact h
  | rt d S1 => rw [r] at h; exact h
  | rtF d S1 => rw [r] at h; exact h
  | rtT a b o S1 => rw [r] at h; exact h
  | exc y S1 => rw [r] at h; exact h
  | bad => rw [r] at h; exact h
theorem s_stuck {x : Stmt} : PS X x (tS X.K X.mg W e fun S => .bad) := ⟨fun pins s σ H D I ⟨Z, S, sr, h⟩ => h.elim⟩
theorem s_pass : PS X (.Pass pos) (tS X.K X.mg W e fun S => .nx S) := ps_pass.mono fun D σ H ⟨Z, S, s, h⟩ => h σ Z H .refl s
theorem s_brk : PS X (.Break pos) (tS X.K X.mg W e fun S => .bk S) := ps_break.mono fun D σ H ⟨Z, S, s, h⟩ => h σ Z H .refl s
theorem s_cont : PS X (.Continue pos) (tS X.K X.mg W e fun S => .ct S) := ps_continue.mono fun D σ H ⟨Z, S, s, h⟩ => h σ Z H .refl s
theorem s_ret (ha : PE X a (tE X.K X.mg W e fa)) : PS X (.Return (some a) pos) (tS X.K X.mg W e fun S => (fa S).fl fun d S1 => .rt d S1) :=
  (ps_ret ha).mono fun D σ H ⟨Z, S, s, h⟩ => ⟨Z, S, s, (AftS.fl (Rel := RelD X.K) h).mono fun v H1 ⟨Z1, d, S1, _, st1, s1, r1, h1⟩ => h1 v σ Z1 H1 .refl s1 r1⟩
theorem s_retF (ha : PE X a (tF X.K X.mg W e ff)) : PS X (.Return (some a) pos) (tS X.K X.mg W e fun S => (ff S).fl fun o S1 => .rtF o S1) :=
  (ps_ret ha).mono fun D σ H ⟨Z, S, s, h⟩ => ⟨Z, S, s, (AftS.fl (Rel := RelF X.K e σ) h).mono fun v H1 ⟨Z1, d, S1, _, st1, s1, r1, h1⟩ => h1 v σ Z1 H1 .refl s1 r1⟩
theorem s_retN : PS X (.Return none pos) (tS X.K X.mg W e fun S => .rt .none S) := ps_retN.mono fun D σ H ⟨Z, S, s, h⟩ => h _ σ Z H .refl s .non
theorem s_expr (hx : noLc a = true) (ha : PE X a (tE X.K X.mg W e fa)) : PS X (.Expr a pos) (tS X.K X.mg W e fun S => (fa S).fl fun _ S1 => .nx S1) :=
  (ps_expr ha (swaps_of hx)).mono fun D σ H ⟨Z, S, s, h⟩ => ⟨Z, S, s, (AftS.fl (Rel := RelD X.K) h).mono fun v H1 ⟨Z1, d, S1, _, st1, s1, r1, h1⟩ => h1 σ Z1 H1 .refl s1⟩
theorem s_if (ht : PT X x (tB X.K X.mg W e ft)) (h1 : PSs X xs (tS X.K X.mg W e g1)) (h2 : PSs X ys (tS X.K X.mg W e g2)) : PS X (.If x xs ys pos) (tS X.K X.mg W e fun S => (ft S).fl fun k S1 => if k then g1 S1 else g2 S1) := by
  refine (ps_if ht h1 h2).mono fun D σ H ⟨Z, S, s, h⟩ => ⟨Z, S, s, (AftS.fl (Rel := RelB) h).mono fun v H1 ⟨Z1, k, S1, _, st1, s1, r1, h1⟩ => ?_⟩
  have r1 : v = k := r1
  subst r1
  cases v with
  | true => exact ⟨Z1, S1, s1, h1⟩
  | false => exact ⟨Z1, S1, s1, h1⟩
/-! stores -/
theorem s_set (ok : CxS st sc c e W X) {i : Nat} {v : Str} {pv : Pos} (hN : st.N[i]? = some v) (hv : asgB sc sc v = true) (hx : noLc x = true) (ha : PE X x (tE X.K X.mg W e fa)) :
    PS X (.Assign [.Name v pv] x pos) (tS X.K X.mg W e fun S => (fa S).fl fun d S1 => if c.io && i == 0 then .bad else .nx (S1.set i (.fro d))) := by
  obtain ⟨h1, h2⟩ := asg_of ok.sc (fun y _ => ok.fn y) hv
  refine (ps_set ok.nd (by rw [ok.N]; exact hN) h1 ha (swaps_of hx) h2).mono fun D σ H ⟨Z, S, s, h⟩ => ⟨Z, S, s, (AftS.fl (Rel := RelD X.K) h).mono fun v H1 ⟨Z1, d, S1, _, st1, s1, r1, h1⟩ => ?_⟩
  split at h1
  · exact h1.elim
  · rename_i hio
    exact h1 _ Z1 H1 .refl (s1.setF r1 (mi_of ok.toCxOk (by simpa using hio)))
theorem s_own_end (ok : CxS st sc c e W X) {i : Nat} {D : Ends} {σ : L2.St} {H : Hp} (h : tS X.K X.mg W e (fun S => (ff S).fl fun o S1 => if c.io && i == 0 then .bad else .nx (S1.set i (.own o))) D σ H) :
    tF X.K X.mg W e ff σ H fun x H1 => gName i x σ H1 D.nx := by
  obtain ⟨Z, S, s, h⟩ := h
  refine ⟨Z, S, s, (AftS.fl (Rel := RelF X.K e σ) h).mono fun v H1 ⟨Z1, o, S1, _, st1, s1, r1, h1⟩ => ?_⟩
  split at h1
  · exact h1.elim
  · rename_i hio
    obtain ⟨p, rfl, nz, ow, eh, nq, np⟩ := r1
    exact h1 _ Z1 H1 .refl (s1.setO nz ow eh nq np (mi_of ok.toCxOk (by simpa using hio)))
theorem s_own (ok : CxS st sc c e W X) {i : Nat} {v : Str} {pv : Pos} (hN : st.N[i]? = some v) (hv : asgB sc sc v = true) (hx : swapsWith x (some (.Name v pv)) pos.line X.env = pure false) (ha : PE X x (tF X.K X.mg W e ff)) :
    PS X (.Assign [.Name v pv] x pos) (tS X.K X.mg W e fun S => (ff S).fl fun o S1 => if c.io && i == 0 then .bad else .nx (S1.set i (.own o))) := by
  obtain ⟨h1, h2⟩ := asg_of ok.sc (fun y _ => ok.fn y) hv
  exact (ps_set ok.nd (by rw [ok.N]; exact hN) h1 ha hx h2).mono fun D σ H h => s_own_end ok h
theorem s_unpack (ok : CxS st sc c e W X) {is : List Nat} {ts : List Expr} {k : Nat} {pt : Pos} (hN : chkNames st.N sc sc is ts = true) (hx : noLc x = true) (hnt : notTup x = true) (ha : PE X x (tE X.K X.mg W e fa)) :
    PS X (.Assign [.Tuple ts k pt] x pos) (tS X.K X.mg W e fun S => (fa S).fl fun d S1 => match bindG c (.tup is) d S1 with | some S2 => .nx S2 | none => .bad) := by
  have hg := dg_tup (e := e) ok.toCxOk (raw := sc) (fun y _ => ok.fn y) (k := k) (p := pt) hN
  refine (ps_asg ha hg (by
      show swapsWith x (some (.Tuple ts k pt)) pos.line X.env = pure false
      exact swaps_of hx) (by cases x <;> first | rfl | cases hnt) rfl).mono fun D σ H ⟨Z, S, s, h⟩ => ⟨Z, S, s, (AftS.fl (Rel := RelD X.K) h).mono fun v H1 ⟨Z1, d, S1, _, st1, s1, r1, h1⟩ => ?_⟩
  split at h1
  · rename_i S2 hb
    exact ⟨Z1, S1, d, S2, s1, r1, hb, fun σ' s' _ => h1 σ' Z1 H1 .refl s'⟩
  · exact h1.elim
/-- a new object of any kind -/
theorem grow_any {Z : Zn} {H : Hp} {p : Addr} {o : HO} (zi : ∀ a, Z a → H a ≠ none) (hp : H p = none) : Grow Z H Z (upd H p o) := ⟨fun _ h => h, fun _ h => .inl h, fun a ob h => by rw [upd_ne (ne_of_none h hp)]; exact h, fun a h q => by
    by_cases e1 : a = p
    · exact zi a h (e1 ▸ hp)
    · rw [upd_ne e1] at q; exact zi a h q⟩
theorem s_ret3 (ok : CxS st sc c e W X) {y : Expr} {v : Str} {kk k : Nat} {pv pt : Pos} (hN : st.N[k]? = some v) (hv : visB sc v = true) (hx : plainE x = true) (hy : plainE y = true) (ha : PE X x (tE X.K X.mg W e fa)) (hb : PE X y (tE X.K X.mg W e fb)) :
    PS X (.Return (some (.Tuple [x, y, .Name v pv] kk pt)) pos) (tS X.K X.mg W e fun S => (fa S).fl fun d1 S1 => (fb S1).fl fun d2 S2 => if c.io then .bad else match S2[k]? with
      | some (.own o) => .rtT d1 d2 o S2
      | _ => .bad) := by
  refine (ps_ret (pe_tup (pa_cons ha (pa_cons hb (pa_cons (pe_nm ok.toCxOk hN hv) pa_nil (star_cons rfl)) (star_cons hy)) (star_cons hx)))).mono fun D σ H ⟨Z, S, s, h⟩ => ?_
  refine ⟨Z, S, s, (AftS.fl (Rel := RelD X.K) h).mono fun v1 H1 ⟨Z1, d1, S1, _, st1, s1, r1, h1⟩ => ⟨Z1, S1, s1, (AftS.fl (Rel := RelD X.K) h1).mono fun v2 H2 ⟨Z2, d2, S2, _, st2, s2, r2, h2⟩ => ?_⟩⟩
  split at h2
  · exact h2.elim
  rename_i hio
  split at h2
  · rename_i o hS
    obtain ⟨q, e1, nz, ow, eh⟩ := s2.own k o hS
    have eh : e.H q = none := eh.elim id fun z => absurd z.1 (ok.io (by simpa using hio) q)
    refine ⟨V.ref q, e1, (by decide : (3 : Nat) ≤ sizeLine), fun p hp => ?_⟩
    have g : Grow Z2 H2 Z2 (upd H2 p (.tup [v1, v2, V.ref q])) := grow_any s2.zi hp
    have nq : ∀ ob, H2 q = some ob → upd H2 p (.tup [v1, v2, V.ref q]) q = some ob := fun ob hb => g.h q ob hb
    exact h2 (V.ref p) p q v1 v2 σ Z2 _ g.step (s2.grow g) ⟨rfl, upd_same, R.step g.step (R.step st2 r1), R.step g.step r2, nz, ow.step g.step nq, eh⟩
  · exact h2.elim
theorem nq_setF {σ : L2.St} {S : Sto} {i : Nat} {d : D} {v : V} {q : Addr} (h : ∀ (j : Nat) o', S[j]? = some (.own o') → σ[j]? ≠ some (some (V.ref q))) :
    ∀ (j : Nat) o', (S.set i (.fro d))[j]? = some (.own o') → (σ.set i (some v))[j]? ≠ some (some (V.ref q)) := fun j o' hj => by
  by_cases e1 : i = j
  · subst e1
    rw [List.getElem?_set] at hj
    simp only [if_true] at hj
    split at hj <;> cases hj
  · rw [List.getElem?_set_ne e1] at hj ⊢
    exact h j o' hj
theorem s_unp3 (ok : CxS st sc c e W X) {f3 : Sto → Res (D × D × Ow)} {i j k : Nat} {n1 n2 n3 : Expr} {kk : Nat} {pt : Pos} (hN : chkNames st.N sc sc [i, j, k] [n1, n2, n3] = true) (hx : noLc x = true) (hnt : notTup x = true) (ha : PE X x (tT X.K X.mg W e f3)) :
    PS X (.Assign [.Tuple [n1, n2, n3] kk pt] x pos) (tS X.K X.mg W e fun S => (f3 S).fl fun t S1 => if c.io then .bad else .nx (((S1.set i (.fro t.1)).set j (.fro t.2.1)).set k (.own t.2.2))) := by
  obtain ⟨a1, a2⟩ := assignEach_names (env := X.env) hN
  have hall := hN
  simp only [chkNames, Bool.and_eq_true] at hN
  obtain ⟨m1, m2, m3, _⟩ := hN
  cases n1 with
  | Name x1 p1 =>
    cases n2 with
    | Name x2 p2 =>
      cases n3 with
      | Name x3 p3 =>
        dsimp only at m1 m2 m3
        rw [Bool.and_eq_true] at m1 m2 m3
        obtain ⟨b1, c1⟩ := asg_of ok.sc (fun y _ => ok.fn y) m1.2
        obtain ⟨b2, c2⟩ := asg_of ok.sc (fun y _ => ok.fn y) m2.2
        obtain ⟨b3, c3⟩ := asg_of ok.sc (fun y _ => ok.fn y) m3.2
        have g1 := pg_name (X := X) (pos := p1) (i := i) ok.nd (by rw [ok.N]; exact of_decide_eq_true m1.1) b1 c1
        have g2 := pg_name (X := X) (pos := p2) (i := j) ok.nd (by rw [ok.N]; exact of_decide_eq_true m2.1) b2 c2
        have g3 := pg_name (X := X) (pos := p3) (i := k) ok.nd (by rw [ok.N]; exact of_decide_eq_true m3.1) b3 c3
        have hg := pg_tup (X := X) (k := kk) (pos := pt) (n := 3) ok.calm (pgs_cons g1 (pgs_cons g2 (pgs_cons g3 pgs_nil))) (by rw [a1]; rfl) (by rw [a1]; rfl)
        refine (ps_asg ha hg (by
            show swapsWith x (some (.Tuple [.Name x1 p1, .Name x2 p2, .Name x3 p3] kk pt)) pos.line X.env = pure false
            exact swaps_of hx) (by cases x <;> first | rfl | cases hnt) rfl).mono fun D σ H ⟨Z, S, s, h⟩ => ⟨Z, S, s, (AftS.fl (Rel := RelT X.K e σ) h).mono fun v H1 ⟨Z1, t, S1, _, st1, s1, r1, h1⟩ => ?_⟩
        split at h1
        · exact h1.elim
        rename_i hio
        obtain ⟨p, q, u1, u2, T3, nq, np⟩ := r1
        have mi : ∀ (n : Nat) a, e.M a → n ≠ 0 := fun n a m => absurd m (ok.io (by simpa using hio) a)
        refine ⟨p, [u1, u2, V.ref q], T3.v, .inl (.inl T3.p), rfl, u1, [u2, V.ref q], rfl, u2, [V.ref q], rfl, V.ref q, [], rfl, rfl, ?_⟩
        exact h1 _ Z1 H1 .refl (((s1.setF T3.a (mi i)).setF T3.b (mi j)).setO T3.nz T3.ow T3.eh (nq_setF (nq_setF nq)) np (mi k))
      | _ => exact absurd m3 (by simp)
    | _ => exact absurd m2 (by simp)
  | _ => exact absurd m1 (by simp)
theorem own_there {Z : Zn} {H : Hp} {σ : L2.St} {S : Sto} {i : Nat} (s : SR X.K e Z H σ S) (h : isOwnL S i = true) : ∃ ds, S[i]? = some (.own (.lst ds)) := by
  unfold isOwnL at h
  split at h
  · rename_i o ho
    cases o with
    | lst ds => exact ⟨ds, ho⟩
    | obj cls fs => cases h
    | dct kvs => cases h
    | dctw kvs => cases h
  · cases h
theorem chg_upd {T : Tz} {Z : Zn} {H : Hp} {a : Addr} {o : HO} {xs : List V} (hl : H a = some (.lst xs)) (zi : ∀ a, Z a → H a ≠ none) (nz : ¬ Z a) (nt : ¬ T a) (tz : ∀ a, T a → ¬ Z a) (tb : ∀ a, T a → TabG T H a) : Chg T (fun b => b = a) Z H Z (upd H a o) where
  z := fun _ h => h
  n := fun _ h => .inl h
  h := fun b o hb hn _ => by rw [upd_ne hn]; exact hb
  i := fun b hb q => by
    by_cases e1 : b = a
    · subst e1; exact nz hb
    · rw [upd_ne e1] at q; exact zi b hb q
  t := fun b hb q => by
    by_cases e1 : b = a
    · subst e1; rw [upd_same] at q; cases q
    · rw [upd_ne e1] at q; exact hb q
  m := fun b hb => by have hb : b = a := hb; rw [hb]; exact nz
  tz := tz
  tg := fun b t => (tb b t).keep fun c o e1 nl => by
    rw [upd_ne (fun q => by rw [q, hl] at e1; cases e1; exact nl.1 _ rfl)]
    exact e1
theorem few_of {env : Env} {p3 : Pos} (hx : plainE x = true) : ((((backTo p3 (starEach [x] env)).all fun x => !x.fst) && (backToKw p3 (keywordEach [] env)).all fun x => x.fst.isSome) && decide (([x].length + ([] : List Keyword).length + if ([] : List Keyword).isEmpty = true then 0 else 1) < 30)) = true := by
  rw [star_cons hx]
  rfl
theorem s_append (ok : CxS st sc c e W X) {i : Nat} {v : Str} {p1 p2 p3 : Pos} (hl : (p2.endLine == p3.line) = true) (hN : st.N[i]? = some v) (hv : visB sc v = true) (hx : plainE x = true) (ha : PE X x (tE X.K X.mg W e fa)) :
    PS X (.Expr (.Call (.Attribute (.Name v p1) "append" p2) [x] [] p3) pos) (tS X.K X.mg W e fun S => if !(isOwnL S i) then .bad else (fa S).fl fun d S1 => match S1[i]? with
      | some (.own (.lst ds)) => if ds.length < sizeLine then .nx (S1.set i (.own (.lst (ds ++ [d])))) else .bad
      | _ => .bad) := by
  refine (ps_expr (pe_bm PySem.F.plainAttrs_list PySem.F.slot_list_append PySem.F.type_list_append mt_append (pe_nm ok.toCxOk hN hv) (pa_cons ha pa_nil (star_cons hx)) (hfew := few_of hx) (hline := hl) (hs := star_cons hx)) rfl).mono fun D σ H ⟨Z, S, s, h⟩ => ?_
  dsimp only at h
  split at h
  · exact h.elim
  rename_i hio
  obtain ⟨o0, ho0⟩ := own_there s (by simpa using hio)
  obtain ⟨l, e1, e2, e3, _⟩ := s.own i _ ho0
  have ty : tyV X.K "list" (V.ref l) H := by
    obtain ⟨xs, h1, _⟩ := e3
    exact .inl ⟨rfl, xs, .inl (.inl h1)⟩
  refine ⟨V.ref l, e1, ty, Z, S, s, (AftS.fl (Rel := RelD X.K) h).mono fun y H1 ⟨Z1, d, S1, _, st1, s1, r1, h1⟩ => ?_⟩
  split at h1
  · rename_i ds hS
    split at h1
    · rename_i hz
      obtain ⟨l', f1, f2, ⟨xs, f3, f4⟩, f5⟩ := s1.own i _ hS
      rw [e1] at f1
      cases f1
      refine ⟨l, xs, y, rfl, rfl, f3, by rw [f4.length]; exact hz, ?_⟩
      have ch : Chg e.T (fun b => b = l) Z1 H1 Z1 (upd H1 l (.lst (xs ++ [y]))) := chg_upd f3 s1.zi f2 (s1.ownT hS e1) s1.tz s1.tb
      refine h1 σ Z1 _ ch.step (s1.back hS e1 ch ⟨xs ++ [y], upd_same, Pd.append (Rs.step ch.step f4) (.cons (R.step ch.step r1) .nil)⟩)
    · exact h1.elim
  · exact h1.elim
theorem s_extend (ok : CxS st sc c e W X) {i : Nat} {v : Str} {p1 p2 p3 : Pos} (hl : (p2.endLine == p3.line) = true) (hN : st.N[i]? = some v) (hv : visB sc v = true) (hx : plainE x = true) {ff : Sto → Res Ow} (ha : PE X x (tF X.K X.mg W e ff)) :
    PS X (.Expr (.Call (.Attribute (.Name v p1) "extend" p2) [x] [] p3) pos) (tS X.K X.mg W e fun S => if !(isOwnL S i) then .bad else (ff S).fl fun o S1 => match S1[i]?, o with
      | some (.own (.lst ds)), .lst es => if ds.length + es.length ≤ sizeLine then .nx (S1.set i (.own (.lst (ds ++ es)))) else .bad
      | _, _ => .bad) := by
  refine (ps_expr (pe_bm PySem.F.plainAttrs_list PySem.F.slot_list_extend PySem.F.type_list_extend mt_extend (pe_nm ok.toCxOk hN hv) (pa_cons ha pa_nil (star_cons hx)) (hfew := few_of hx) (hline := hl) (hs := star_cons hx)) rfl).mono fun D σ H ⟨Z, S, s, h⟩ => ?_
  dsimp only at h
  split at h
  · exact h.elim
  rename_i hio
  obtain ⟨o0, ho0⟩ := own_there s (by simpa using hio)
  obtain ⟨l, e1, e2, e3, _⟩ := s.own i _ ho0
  have ty : tyV X.K "list" (V.ref l) H := by
    obtain ⟨xs, h1, _⟩ := e3
    exact .inl ⟨rfl, xs, .inl (.inl h1)⟩
  refine ⟨V.ref l, e1, ty, Z, S, s, (AftS.fl (Rel := RelF X.K e σ) h).mono fun y H1 ⟨Z1, d, S1, _, st1, s1, r1, h1⟩ => ?_⟩
  split at h1
  · rename_i ds es hS _
    split at h1
    · rename_i hz
      obtain ⟨l', f1, f2, ⟨xs, f3, f4⟩, f5⟩ := s1.own i _ hS
      rw [e1] at f1
      cases f1
      obtain ⟨b, rfl, _, ⟨zs, hb, rs⟩, _⟩ := r1
      refine ⟨l, b, xs, zs, rfl, rfl, f3, hb, by rw [f4.length, rs.length]; exact hz, ?_⟩
      have ch : Chg e.T (fun b => b = l) Z1 H1 Z1 (upd H1 l (.lst (xs ++ zs))) := chg_upd f3 s1.zi f2 (s1.ownT hS e1) s1.tz s1.tb
      refine h1 σ Z1 _ ch.step (s1.back hS e1 ch ⟨xs ++ zs, upd_same, Pd.append (Rs.step ch.step f4) (Rs.step ch.step rs)⟩)
    · exact h1.elim
  · exact h1.elim
/-- extending a list of one's own by a list that is read -/
def rExtE (K : PySem.W.Frag) : V → List V → Hp → VK → Prop := fun x vs H Q => ∃ l b xs zs, x = .ref l ∧ vs = [.ref b] ∧ H l = some (.lst xs) ∧ SqL K H b zs ∧ xs.length + zs.length ≤ sizeLine ∧ Q .non (upd H l (.lst (xs ++ zs)))
theorem mt_extE {X : Cx} : MtM X "list.extend" (rExtE X.K) := by
  rintro pins s σ H _ _ v us Q I rx rv ⟨l, b, xs, zs, rfl, rfl, own, other, few, k⟩
  have hv : v = .ref l := by cases rx; rfl
  have hu : us = [.ref b] := by
    cases rv with
    | cons h t =>
      cases t
      cases h
      rfl
  have old := I.lstM own
  have more := I.list other
  rcases old with ⟨z, its, n, rel, size, cell⟩
  rcases more with ⟨its', rel', ⟨o, n', there, kind, data, wide⟩, _⟩
  have many : its.length + its'.length ≤ sizeLine := by
    rw [← rel.length, ← rel'.length]
    exact few
  rw [hv, hu]
  have both := rel.append rel'
  have whole : (xs ++ zs).length ≤ sizeLine := Nat.le_trans (Nat.le_of_eq List.length_append) few
  have laid := I.lset (t' := s.toks) (f := fun a => a ++ its'.toArray) own cell (List.append_toArray _ _) both whole
  exact call_meets PySem.F.slot_list_extend ⟨_, cell, rfl⟩ PySem.F.entry_list_extend (PySem.F.args_list_extend_2 _ _) (ext_any kind wide many) ⟨⟨_, rfl, cell⟩, there, .non, _, laid, rfl, k⟩
theorem s_extE (ok : CxS st sc c e W X) {i : Nat} {v : Str} {p1 p2 p3 : Pos} (hl : (p2.endLine == p3.line) = true) (hN : st.N[i]? = some v) (hv : visB sc v = true) (hx : plainE x = true) (ha : PE X x (tE X.K X.mg W e fa)) :
    PS X (.Expr (.Call (.Attribute (.Name v p1) "extend" p2) [x] [] p3) pos) (tS X.K X.mg W e fun S => if !(isOwnL S i) then .bad else (fa S).fl fun d S1 => match S1[i]?, d with
      | some (.own (.lst ds)), .list es => if ds.length + es.length ≤ sizeLine then .nx (S1.set i (.own (.lst (ds ++ es)))) else .bad
      | _, _ => .bad) := by
  refine (ps_expr (pe_bm PySem.F.plainAttrs_list PySem.F.slot_list_extend PySem.F.type_list_extend mt_extE (pe_nm ok.toCxOk hN hv) (pa_cons ha pa_nil (star_cons hx)) (hfew := few_of hx) (hline := hl) (hs := star_cons hx)) rfl).mono fun D σ H ⟨Z, S, s, h⟩ => ?_
  dsimp only at h
  split at h
  · exact h.elim
  rename_i hio
  obtain ⟨o0, ho0⟩ := own_there s (by simpa using hio)
  obtain ⟨l, e1, e2, e3, _⟩ := s.own i _ ho0
  have ty : tyV X.K "list" (V.ref l) H := by
    obtain ⟨xs, h1, _⟩ := e3
    exact .inl ⟨rfl, xs, .inl (.inl h1)⟩
  refine ⟨V.ref l, e1, ty, Z, S, s, (AftS.fl (Rel := RelD X.K) h).mono fun y H1 ⟨Z1, d, S1, _, st1, s1, r1, h1⟩ => ?_⟩
  split at h1
  · rename_i ds es hS _
    split at h1
    · rename_i hz
      obtain ⟨l', f1, f2, ⟨xs, f3, f4⟩, f5⟩ := s1.own i _ hS
      rw [e1] at f1
      cases f1
      obtain ⟨b, zs, rfl, hb, rs⟩ := r1.lst_inv
      refine ⟨l, b, xs, zs, rfl, rfl, f3, hb, by rw [f4.length, rs.length]; exact hz, ?_⟩
      have ch : Chg e.T (fun b => b = l) Z1 H1 Z1 (upd H1 l (.lst (xs ++ zs))) := chg_upd f3 s1.zi f2 (s1.ownT hS e1) s1.tz s1.tb
      refine h1 σ Z1 _ ch.step (s1.back hS e1 ch ⟨xs ++ zs, upd_same, Pd.append (Rs.step ch.step f4) (Rs.step ch.step rs)⟩)
    · exact h1.elim
  · exact h1.elim
theorem s_setI (ok : CxS st sc c e W X) {i : Nat} {v : Str} {p1 p2 : Pos} (hN : st.N[i]? = some v) (hv : visB sc v = true) (hb : plainE b = true) (hx : noLc x = true) (hk : PE X b (tE X.K X.mg W e fb)) (ha : PE X x (tE X.K X.mg W e fa)) :
    PS X (.Assign [.Subscript (.Name v p1) b p2] x pos) (tS X.K X.mg W e fun S => (fa S).fl fun d S1 => if !(isOwnL S1 i) then .bad else (fb S1).fl fun kk S2 => match S2[i]?, kk with
      | some (.own (.lst ds)), .int j => match setAt ds j d with
        | some ds' => .nx (S2.set i (.own (.lst ds')))
        | none => .bad
      | _, _ => .bad) := by
  refine (ps_asg ha (pg_sub (pe_nm ok.toCxOk hN hv) hk set_list (by intro w; cases b <;> first | rfl | cases hb)) (by
      show swapsWith x (some (.Subscript (.Name v p1) b p2)) pos.line X.env = pure false
      exact swaps_of hx) (by cases x <;> rfl) rfl).mono fun D σ H ⟨Z, S, s, h⟩ => ⟨Z, S, s, (AftS.fl (Rel := RelD X.K) h).mono fun y H1 ⟨Z1, d, S1, _, st1, s1, r1, h1⟩ => ?_⟩
  split at h1
  · exact h1.elim
  rename_i hio
  obtain ⟨o0, ho0⟩ := own_there s1 (by simpa using hio)
  obtain ⟨w, hw, _⟩ := s1.own i _ ho0
  refine ⟨V.ref w, hw, Z1, S1, s1, (AftS.fl (Rel := RelD X.K) h1).mono fun ix H2 ⟨Z2, kk, S2, _, st2, s2, r2, h2⟩ => ?_⟩
  split at h2
  · rename_i ds j hS _
    split at h2
    · rename_i ds' hds
      obtain ⟨l', f1, f2, ⟨xs, f3, f4⟩, f5⟩ := s2.own i _ hS
      rw [hw] at f1
      cases f1
      unfold setAt at hds
      cases q : ixN ds.length j with
      | none => rw [q] at hds; cases hds
      | some k =>
        rw [q] at hds
        cases hds
        refine ⟨w, xs, j, k, rfl, r2.int_inv, f3, by rw [f4.length]; exact q, ?_⟩
        have ch : Chg e.T (fun b => b = w) Z2 H2 Z2 (upd H2 w (.lst (xs.set k y))) := chg_upd f3 s2.zi f2 (s2.ownT hS hw) s2.tz s2.tb
        exact h2 σ Z2 _ ch.step (s2.back hS hw ch ⟨xs.set k y, upd_same, Pd.set (R.step ch.step (R.step st2 r1)) k (Rs.step ch.step f4)⟩)
    · exact h2.elim
  · exact h2.elim

/-! ### dicts -/
theorem chg_dct {T : Tz} {w : World} {Z Z' : Zn} {H : Hp} {a : Addr} {o : HO} {kvs : List (D × D)} (hl : DctAt X.K w Z' H a kvs) (zi : ∀ a, Z a → H a ≠ none) (nz : ¬ Z a) (nt : ¬ T a) (tz : ∀ a, T a → ¬ Z a) (tb : ∀ a, T a → TabG T H a) : Chg T (fun b => b = a) Z H Z (upd H a o) where
  z := fun _ h => h
  n := fun _ h => .inl h
  h := fun b o hb hn _ => by rw [upd_ne hn]; exact hb
  i := fun b hb q => by
    by_cases e1 : b = a
    · subst e1; exact nz hb
    · rw [upd_ne e1] at q; exact zi b hb q
  t := fun b hb q => by
    by_cases e1 : b = a
    · subst e1; rw [upd_same] at q; cases q
    · rw [upd_ne e1] at q; exact hb q
  m := fun b hb => by have hb : b = a := hb; rw [hb]; exact nz
  tz := tz
  tg := fun b t => by
    have nb : b ≠ a := fun q => nt (q ▸ t)
    obtain ⟨ps, e1, t1, t2⟩ := tb b t
    refine ⟨ps, by rw [upd_ne nb]; exact e1, t1, fun q hq pos cv hc => ?_⟩
    obtain ⟨cc, e2, e3⟩ := t2 q hq pos cv hc
    refine ⟨cc, e2, ?_⟩
    rw [upd_ne (fun q => ?_)]
    · exact e3
    · rcases hl with ⟨es, e4, _⟩ | ⟨xs, e4, _⟩
      · rw [q, e4] at e3; unfold LamX.CodeO at e3; cases e3
      · subst q; rw [e4] at e3; exact codeO_raw rfl (Option.some.inj e3).symm
theorem s_setD (ok : CxS st sc c e W X) {i : Nat} {v : Str} {p1 p2 : Pos} (hN : st.N[i]? = some v) (hv : visB sc v = true) (hb : plainE b = true) (hx : noLc x = true) (hk : PE X b (tE X.K X.mg W e fb)) (ha : PE X x (tE X.K X.mg W e fa)) :
    PS X (.Assign [.Subscript (.Name v p1) b p2] x pos) (tS X.K X.mg W e fun S => (fa S).fl fun d S1 => if (dctAt S1 i).isSome then (fb S1).fl fun kk S2 => match dctOwn S2 i with
      | some kvs => if keyOk kvs kk = true ∧ kvs.length < sizeLine then .nx (S2.set i (.own (.dct (putKV kvs kk d)))) else .bad
      | none => .bad
      else .bad) := by
  refine (ps_asg ha (pg_sub (pe_nm ok.toCxOk hN hv) hk (set_dct ok.units) (by intro w; cases b <;> first | rfl | cases hb)) (by
      show swapsWith x (some (.Subscript (.Name v p1) b p2)) pos.line X.env = pure false
      exact swaps_of hx) (by cases x <;> rfl) rfl).mono fun D σ H ⟨Z, S, s, h⟩ => ⟨Z, S, s, (AftS.fl (Rel := RelD X.K) h).mono fun y H1 ⟨Z1, d, S1, _, st1, s1, r1, h1⟩ => ?_⟩
  split at h1
  case isFalse => exact h1.elim
  rename_i hio
  obtain ⟨kv0, h0⟩ := Option.isSome_iff_exists.mp hio
  obtain ⟨_, w, hw, _⟩ := dct_own ok.toCxOk s1 h0
  refine ⟨V.ref w, hw, Z1, S1, s1, (AftS.fl (Rel := RelD X.K) h1).mono fun ix H2 ⟨Z2, kk, S2, _, st2, s2, r2, h2⟩ => ?_⟩
  split at h2
  · rename_i kvs hS
    obtain ⟨e1, w', hw', nz, da⟩ := dct_mine ok.toCxOk s2 hS
    rw [hw] at hw'
    cases hw'
    split at h2
    · rename_i hc
      refine ⟨w, Z2, kvs, kk, d, rfl, da, nz, r2, R.step st2 r1, hc.1, hc.2, fun o dn => ?_⟩
      have ch : Chg e.T (fun b => b = w) Z2 H2 Z2 (upd H2 w o) := chg_dct da s2.zi nz (s2.ownT e1 hw) s2.tz s2.tb
      exact h2 σ Z2 _ ch.step (s2.back e1 hw ch (by show DctAt X.K e.T.w Z2 _ w _; rw [ok.cw]; exact dn))
    · exact h2.elim
  · exact h2.elim

/-! ### objects -/
theorem chg_ins {T : Tz} {Z : Zn} {H : Hp} {a C dx : Addr} {vs ws : List (Str × V)} (hl : H a = some (.ins C dx vs)) (zi : ∀ a, Z a → H a ≠ none) (nz : ¬ Z a) (nt : ¬ T a) (tz : ∀ a, T a → ¬ Z a) (tb : ∀ a, T a → TabG T H a) : Chg T (fun b => b = a) Z H Z (upd H a (.ins C dx ws)) where
  z := fun _ h => h
  n := fun _ h => .inl h
  h := fun b o hb hn _ => by rw [upd_ne hn]; exact hb
  i := fun b hb q => by
    by_cases e1 : b = a
    · subst e1; exact nz hb
    · rw [upd_ne e1] at q; exact zi b hb q
  t := fun b hb q => by
    by_cases e1 : b = a
    · subst e1; rw [upd_same] at q; cases q
    · rw [upd_ne e1] at q; exact hb q
  m := fun b hb => by have hb : b = a := hb; rw [hb]; exact nz
  tz := tz
  tg := fun b t => (tb b t).keep fun c o e1 nl => by
    rw [upd_ne (fun q => by rw [q, hl] at e1; cases e1; exact nl.2 _ _ _ rfl)]
    exact e1
theorem s_setF (ok : CxS st sc c e W X) {cls f v : Str} {i : Nat} {p p' : Pos} (hN : st.N[i]? = some v) (hv : visB sc v = true) (hf : ((st.cls.lookup cls).getD []).contains f = true) (hx : noLc x = true) (ha : PE X x (tE X.K X.mg W e fa)) :
    PS X (.Assign [.Attribute (.Name v p) f p'] x pos) (tS X.K X.mg W e fun S => (fa S).fl fun d S1 => match S1[i]? with
      | some (.own (.obj k fs)) => if k = cls ∧ fs.length < 900 then .nx (S1.set i (.own (.obj k (putD f d fs)))) else .bad
      | _ => .bad) := by
  refine (ps_fld (pe_nm ok.toCxOk hN hv) ha (swaps_of hx)).mono fun Dn σ H ⟨Z, S, s, h⟩ => ?_
  refine ⟨Z, S, s, (AftS.fl (Rel := RelD X.K) h).mono fun y H1 ⟨Z1, d, S1, _, st1, s1, r1, h1⟩ => ?_⟩
  split at h1
  · rename_i k fs hS
    split at h1
    case isFalse => exact h1.elim
    rename_i hk
    obtain ⟨hk, hz⟩ := hk
    subst hk
    cases hc : st.cls.lookup k with
    | none => rw [hc] at hf; simp at hf
    | some flds =>
      rw [hc] at hf
      obtain ⟨a, C, dx, vs, g1, g2, g3, g4, g5, g6, g7⟩ := own_obj ok.toCxOk s1 hS hc
      refine ⟨V.ref a, g1, a, C, dx, vs, rfl, g3, g5, g7 f (by simpa using hf), by rw [g4.length]; omega, ?_⟩
      have ch : Chg e.T (fun b => b = a) Z1 H1 Z1 (upd H1 a (.ins C dx (putF f y vs))) := chg_ins g3 s1.zi g2 (s1.ownT hS g1) s1.tz s1.tb
      exact h1 σ Z1 _ ch.step (s1.back hS g1 ch ⟨C, dx, _, by rw [ok.cmg]; exact g6, upd_same, fds_put (R.step ch.step r1) (Fds.step ch.step g4)⟩)
  · exact h1.elim
theorem d_new (ok : CxS st sc c e W X) {cls f : Str} {fs : Sto → Res (List D)} {y : Expr} {ys : List Expr} (hg : glB sc cls = true) (hf : st.fns.lookup f = some .io) (hmt : st.mts.lookup f = some (cls, ("__init__" : Str))) (hy : plainE y = true) (hpl : (backTo pos (starEach ys X.env)).any (·.1) = false) (ha : PA X (y :: ys) (tA X.K X.mg W e fs)) :
    PE X (.Call (.Name cls q) (y :: ys) [] pos) (tF X.K X.mg W e fun S => if c.run.isEmpty then .bad else (fs S).bind fun ds S1 => newR c cls f ds S1) := by
  obtain ⟨g1, g2, g3⟩ := gl_of ok.sc hg
  have fns := ok.fns
  have room := ok.rm1
  cases hr : c.run with
  | nil => exact pe_absurdF fun S => rfl
  | cons r rs =>
    rw [hr] at fns room
    obtain ⟨fa, fd, ps, mat, m3, F, ar⟩ := (fns.head hf).ex
    obtain ⟨C, mC, hC, hM, hMk⟩ := fat_meth hmt mat
    refine (pe_make (hMk rfl) F room g1 mC m3 .nil (E := fun _ _ _ => False) (fun _ _ _ _ _ _ _ cx => by
      obtain ⟨_, _, _, _, _, _, _, _, _, _, _, _, z⟩ := cx
      exact z.elim) ha g2 (star_cons hy) hpl).mono fun σ H Q ⟨Z, S, s, h⟩ => ?_
    refine ⟨Z, S, s, (Aft.bind (Rel := RelDs X.K) h).mono fun vs H1 ⟨Z1, ds, S1, _, st1, s1, r1, h1⟩ => fun x dx hx hdx ne => ?_⟩
    unfold newR at h1
    rw [hr] at h1
    dsimp only at h1
    have nb : r f (some (.obj cls [])) ds ≠ .bad := fun z => by rw [z] at h1; exact h1.elim
    have gA : Grow Z1 H1 Z1 (upd H1 dx (.own x)) := grow_any s1.zi hdx
    have gB : Grow Z1 (upd H1 dx (.own x)) Z1 (upd (upd H1 dx (.own x)) x (.ins C dx [])) := grow_any gA.i (by rw [upd_ne (Ne.symm ne)]; exact hx)
    have g := gA.trans gB
    have s2 := s1.grow g
    have nT : ¬ e.T x := fun t => (s1.tb x t).there hx
    refine ⟨by rw [List.append_nil, List.length_cons, r1.length]; exact ar _ ds nb, Z1, s2.zi, fun a t => ⟨s2.tb a t, s2.tz a t⟩, x, vs ++ [], .obj cls [], ds, rfl, fun z => s1.zi x z hx, nT, ⟨C, dx, [], by rw [ok.cmg]; exact mC, upd_same, .nil⟩, by rw [List.append_nil]; exact Rs.step g.step r1, ?_⟩
    cases hq : r f (some (.obj cls [])) ds with
    | bad => exact nb hq
    | okF o => rw [hq] at h1; exact h1.elim
    | okT _ _ _ => rw [hq] at h1; exact h1.elim
    | exc xx => rw [hq] at h1; exact h1.elim
    | ok d io =>
      rw [hq] at h1
      cases io with
      | none => cases d <;> exact h1.elim
      | some o' =>
        cases d with
        | none =>
          intro v Z' H' ch rv ow
          have slot : ∀ (j : Nat) o', S1[j]? = some (.own o') → σ[j]? ≠ some (some (V.ref x)) := fun j o' hj hs => by
            obtain ⟨b, b1, _, b3, _⟩ := s1.own j o' hj
            rw [b1] at hs
            cases hs
            exact b3.there hx
          refine ⟨rv.non_inv, h1 (V.ref x) Z' H' (g.step.trans ch.step) (s2.chg ch (fun b hb j o' hj hs => by
            have hb : b = x := hb
            subst hb
            exact slot j o' hj hs) (fun b hb => by have hb : b = x := hb; rw [hb]; exact .inl (s1.new hx)) fun b hb => by have hb : b = x := hb; rw [hb]; exact s1.newP hx)
            ⟨x, rfl, fun z => ?_, ow, s1.new hx, slot, s1.newP hx⟩⟩
          rcases ch.n x z with z | z
          · exact s1.zi x z hx
          · rw [upd_same] at z; cases z
        | _ => exact h1.elim

/-! ### raise, try -/
theorem s_raise (ok : CxS st sc c e W X) {cls : Str} {ps : List Str} {fs : Sto → Res (List D)} {y : Expr} {ys : List Expr} {p1 p2 : Pos} (hg : glB sc cls = true) (hx : st.exs.lookup cls = some ps) (hy : plainE y = true) (hpl : (backTo p2 (starEach ys X.env)).any (·.1) = false) (ha : PA X (y :: ys) (tA X.K X.mg W e fs)) :
    PS X (.Raise (some (.Call (.Name cls p1) (y :: ys) [] p2)) none pos) (tS X.K X.mg W e fun S => (fs S).fl fun ds S1 => if ds.length = ps.length then .exc ⟨cls, (ps.zip ds).reverse⟩ S1 else .bad) := by
  obtain ⟨C, fI, fam, T, h0, h8, hm, _, _⟩ := (ok.xs cls ps hx).ex
  obtain ⟨g1, g2, _⟩ := gl_of ok.sc hg
  refine (ps_raise ok.calm ok.tk (pmk_sup T h0 h8 hm g1 g2 ok.room ha (star_cons hy) hpl)).mono fun Dn σ H ⟨Z, S, s, h⟩ => ?_
  refine ⟨Z, S, s, (AftS.fl (Rel := RelDs X.K) h).mono fun vs H1 ⟨Z1, ds, S1, _, st1, s1, r1, h1⟩ => ?_⟩
  split at h1
  case isFalse => exact h1.elim
  rename_i hl
  refine ⟨by rw [r1.length]; exact hl, fun d hd => ?_⟩
  have g : Grow Z1 H1 (Z1.put d) (upd H1 d (.xd (fldL ps vs))) := Grow.new s1.zi hd
  have pz : ∀ {H2 : Hp}, Step Z1 H1 (Z1.put d) H2 → ∀ {vs : List V} {ds : List D}, Rs X.K Z1 H1 vs ds → ∀ (ps : List Str), Paired (fun (p : Str × V) (q : Str × D) => p.1 = q.1 ∧ R X.K (Z1.put d) H2 p.2 q.2) (ps.zip vs) (ps.zip ds) := by
    intro H2 st vs ds r
    induction r with
    | nil => intro ps; cases ps <;> exact .nil
    | cons h t ih =>
      intro ps
      cases ps with
      | nil => exact .nil
      | cons p ps => exact .cons ⟨rfl, R.step st h⟩ (ih ps)
  exact h1 (.ref C) (some d) σ (Z1.put d) _ g.step (s1.grow g) ⟨C, hm, rfl, d, fldL ps vs, rfl, Zn.put_self, upd_same, Pd.rev (pz g.step r1 ps)⟩
/-- a value in an except suite -/
def tV (K : PySem.W.Frag) (mg : Str → Option Value) (i : Option Nat) (a : Addr) (cls : Value) (dd : Option Addr) (x : Xc) (o : Option D) : TE := fun σ H Q => ∃ Z d, (∀ j, i = some j → σ[j]? = some (some (V.ref a))) ∧ RX K mg Z H cls dd x ∧ o = some d ∧ ∀ u, R K Z H u d → Q u H
theorem look_rel {K : PySem.W.Frag} {Z : Zn} {H : Hp} {f : Str} {d : D} : ∀ {l : List (Str × V)} {l' : List (Str × D)}, Paired (fun p q => p.1 = q.1 ∧ R K Z H p.2 q.2) l l' → l'.lookup f = some d → ∃ v, l.lookup f = some v ∧ R K Z H v d
  | _, _, .nil, h => by cases h
  | _, _, .cons (a := a) (b := b) h t, e => by
    obtain ⟨h1, h2⟩ := h
    obtain ⟨n, v⟩ := a
    obtain ⟨n', u⟩ := b
    have h1 : n = n' := h1
    subst h1
    simp only [List.lookup] at e ⊢
    split at e
    · cases e; exact ⟨v, rfl, h2⟩
    · exact look_rel t e
theorem pe_xv (ok : CxS st sc c e W X) {cls0 : Str} {ps : List Str} {i : Option Nat} {nm : Option Str} (hx : st.exs.lookup cls0 = some ps) (hn : chkNm st sc i nm = true) {a0 : Addr} {oe : Obj} {cls : Value} {dd : Option Addr} {pn : List (Addr × Obj)} (hz : Zc cls dd oe) (hf : ∃ vs, oe.data = .fields vs)
    (x : Xc) (hc : x.cls = cls0) (v : XV) (y : Expr) (h : chkXV st cls0 nm v y = true) : PE (X.suite a0 ((a0, oe) :: pn)) y (tV X.K X.mg i a0 cls dd x (v.val x)) := by
  obtain ⟨C, fI, fam, T, h0, h8, hm, xf, te⟩ := (ok.xs cls0 ps hx).ex
  cases v with
  | fld f =>
    simp only [chkXV] at h
    split at h
    · rename_i z pz g pg y
      simp only [Bool.and_eq_true, beq_iff_eq] at h
      obtain ⟨⟨rfl, rfl⟩, h3⟩ := h
      rw [hx] at h3
      have h3 : f ∈ ps := by simpa using h3
      cases i with
      | none => simp [chkNm] at hn
      | some j =>
        simp only [chkNm, Bool.and_eq_true, decide_eq_true_eq] at hn
        obtain ⟨⟨n1, n2⟩, n3⟩ := hn
        obtain ⟨v1, v2, v3⟩ := vis_of n3
        have pv : PE (X.suite a0 ((a0, oe) :: pn)) (.Name z pz) (tVar j) := pe_var (X := X.suite a0 ((a0, oe) :: pn)) (by show X.N[j]? = _; rw [ok.N]; exact n1) (by show Vis X.env.scope z; rw [ok.sc]; exact v1) v2 v3
        refine (pe_xf xf (T.no f h3) hz hf pv).mono fun σ H Q ⟨Z, d, hs, rx, ho, hq⟩ => ?_
        obtain ⟨C', m', rfl, da, fs, rfl, zd, hd, pr⟩ := rx
        rw [hc, hm] at m'
        cases m'
        obtain ⟨v, hv, rv⟩ := look_rel pr ho
        exact ⟨V.ref a0, hs j rfl, rfl, rfl, da, fs, v, rfl, hd, hv, hq v rv⟩
    · cases h
  | str z =>
    simp only [chkXV] at h
    split at h
    · rw [beq_iff_eq] at h
      subst h
      exact pe_str.mono fun σ H Q ⟨Z, d, _, _, ho, hq⟩ => by cases ho; exact hq _ (.str _)
    · cases h
  | bl b =>
    simp only [chkXV] at h
    split at h
    · rw [beq_iff_eq] at h
      subst h
      exact pe_bl.mono fun σ H Q ⟨Z, d, _, _, ho, hq⟩ => by cases ho; exact hq _ (.bl _)
    · cases h
  | non =>
    simp only [chkXV] at h
    split at h
    · exact pe_non.mono fun σ H Q ⟨Z, d, _, _, ho, hq⟩ => by cases ho; exact hq _ .non
    · cases h
  | int k =>
    simp only [chkXV] at h
    split at h
    · rw [beq_iff_eq] at h
      subst h
      exact pe_int.mono fun σ H Q ⟨Z, d, _, _, ho, hq⟩ => by cases ho; exact hq _ (.int _)
    · cases h
def tVs (K : PySem.W.Frag) (mg : Str → Option Value) (i : Option Nat) (a : Addr) (cls : Value) (dd : Option Addr) (x : Xc) (o : Option (List D)) : TA := fun σ H Q => ∃ Z ds, (∀ j, i = some j → σ[j]? = some (some (V.ref a))) ∧ RX K mg Z H cls dd x ∧ o = some ds ∧ ∀ us, Rs K Z H us ds → Q us H
theorem pa_xv (ok : CxS st sc c e W X) {cls0 : Str} {ps : List Str} {i : Option Nat} {nm : Option Str} (hx : st.exs.lookup cls0 = some ps) (hn : chkNm st sc i nm = true) {a0 : Addr} {oe : Obj} {cls : Value} {dd : Option Addr} {pn : List (Addr × Obj)} (hz : Zc cls dd oe) (hf : ∃ vs, oe.data = .fields vs)
    (x : Xc) (hc : x.cls = cls0) : ∀ (vs : List XV) (ys : List Expr), chkXVs st cls0 nm vs ys = true → PA (X.suite a0 ((a0, oe) :: pn)) ys (tVs X.K X.mg i a0 cls dd x (XV.vals x vs))
  | [], ys, h => by
    cases ys with
    | nil => exact pa_nil.mono fun σ H Q ⟨Z, ds, _, _, ho, hq⟩ => by cases ho; exact hq [] .nil
    | cons y ys => simp [chkXVs] at h
  | v :: vs, ys, h => by
    cases ys with
    | nil => simp [chkXVs] at h
    | cons y ys =>
      simp only [chkXVs, Bool.and_eq_true] at h
      refine (pa_cons (pe_xv ok hx hn hz hf x hc v y h.1.2) (pa_xv ok hx hn hz hf x hc vs ys h.2) (star_cons h.1.1)).mono fun σ H Q ⟨Z, ds, hs, rx, ho, hq⟩ => ?_
      unfold XV.vals at ho
      cases h1 : v.val x with
      | none => rw [h1] at ho; cases ho
      | some d =>
        rw [h1, Option.bind_some] at ho
        cases h2 : XV.vals x vs with
        | none => rw [h2] at ho; cases ho
        | some ds' =>
          rw [h2] at ho
          cases ho
          exact ⟨Z, d, hs, rx, by first | rfl | exact h1, fun u ru => ⟨Z, ds', hs, rx, by first | rfl | exact h2, fun us rus => hq (u :: us) (.cons ru rus)⟩⟩
/-- what a suite returns -/
def tXR (K : PySem.W.Frag) (mg : Str → Option Value) (i : Option Nat) (a : Addr) (cls : Value) (dd : Option Addr) (x : Xc) (o : Option D) : TE := fun σ H Q => ∃ Z d, (∀ a, Z a → H a ≠ none) ∧ (∀ j, i = some j → σ[j]? = some (some (V.ref a))) ∧ RX K mg Z H cls dd x ∧ o = some d ∧ ∀ u Z' H', Grow Z H Z' H' → R K Z' H' u d → Q u H'
theorem pe_xr (ok : CxS st sc c e W X) {cls0 : Str} {ps : List Str} {i : Option Nat} {nm : Option Str} (hx : st.exs.lookup cls0 = some ps) (hn : chkNm st sc i nm = true) {a0 : Addr} {oe : Obj} {cls : Value} {dd : Option Addr} {pn : List (Addr × Obj)} (hz : Zc cls dd oe) (hf : ∃ vs, oe.data = .fields vs)
    (x : Xc) (hc : x.cls = cls0) (r : XR) (y : Expr) (h : chkXR st cls0 nm r y = true) : PE (X.suite a0 ((a0, oe) :: pn)) y (tXR X.K X.mg i a0 cls dd x (r.val x)) := by
  cases r with
  | one v => exact (pe_xv ok hx hn hz hf x hc v y h).mono fun σ H Q ⟨Z, d, zi, hs, rx, ho, hq⟩ => ⟨Z, d, hs, rx, ho, fun u ru => hq u Z H (Grow.refl zi) ru⟩
  | tup vs =>
    simp only [chkXR] at h
    split at h
    · refine (pe_tup (pa_xv ok hx hn hz hf x hc vs _ h)).mono fun σ H Q ⟨Z, d, zi, hs, rx, ho, hq⟩ => ?_
      have ho : (if vs.length ≤ sizeLine then (XV.vals x vs).map PyData.tuple else none) = some d := ho
      by_cases hl : vs.length ≤ sizeLine
      case neg => rw [if_neg hl] at ho; cases ho
      rw [if_pos hl] at ho
      cases h2 : XV.vals x vs with
      | none => rw [h2] at ho; cases ho
      | some ds =>
        rw [h2] at ho
        cases ho
        have len : ∀ {vs : List XV} {ds : List D}, XV.vals x vs = some ds → ds.length = vs.length := by
          intro vs
          induction vs with
          | nil => intro ds h; cases h; rfl
          | cons v vs ih =>
            intro ds h
            unfold XV.vals at h
            cases q : v.val x with
            | none => rw [q] at h; cases h
            | some d =>
              rw [q, Option.bind_some] at h
              cases q2 : XV.vals x vs with
              | none => rw [q2] at h; cases h
              | some ds' => rw [q2] at h; cases h; simp [ih q2]
        refine ⟨Z, ds, hs, rx, by first | rfl | exact h2, fun us rus => ⟨by rw [rus.length, len h2]; exact hl, fun p hp => ?_⟩⟩
        have g : Grow Z H (Z.put p) (upd H p (.tup us)) := Grow.new zi hp
        exact hq (V.ref p) _ _ g (.tup Zn.put_self upd_same (Rs.step g.step rus))
    · cases h
/-- try: body, except cls [as n]: return .. -/
theorem s_try (ok : CxS st sc c e W X) {cls : Str} {i : Option Nat} {nm : Option Str} {r : XR} {y : Expr} {fb : Sto → Fl} {np p1 p2 : Pos} (hg : glB sc cls = true) (hx : (st.exs.lookup cls).isSome = true) (hn : chkNm st sc i nm = true) (hr : chkXR st cls nm r y = true)
    (hb : ∀ (W' : WX) (pn : List (Addr × Obj)) (xe : Value → Shared → Prop), CxS st sc c e W' (X.tr pn xe) → PSs (X.tr pn xe) ys (tS X.K X.mg W' e fb)) :
    PS X (.Try ys [.ExceptHandler (some (.Name cls np)) nm [.Return (some y) p1] p2] [] [] pos) (tS X.K X.mg W e fun S => match fb S with
      | .exc x S' => if x.cls = cls ∧ (∀ j, i = some j → j < S'.length) then (match r.val x with
          | some d => .rt d S'
          | none => .bad) else .bad
      | f => f) := by
  obtain ⟨ps, hps⟩ := Option.isSome_iff_exists.mp hx
  obtain ⟨C, fI, fam, T, h0, h8, hm, xf, te⟩ := (ok.xs cls ps hps).ex
  obtain ⟨g1, g2, _⟩ := gl_of ok.sc hg
  have nmC : Names X cls (.ref C) := ⟨g1, g2, .inl hm⟩
  have body : ∀ (W' : WX) (pn : List (Addr × Obj)) (xe : Value → Shared → Prop), Takes (X.tr pn xe) W' → PassesOwn (model X.prog X.w) X.A X.env xe → PSs (X.tr pn xe) ys (tS X.K X.mg W' e fb) := fun W' pn xe tk po => hb W' pn xe
    { calm := ok.calm, nd := ok.nd, N := ok.N, sc := ok.sc, room := ok.room, tab := ok.tab, fns := ok.fns, cmg := ok.cmg, cw := ok.cw, cl := ok.cl, bl := ok.bl, con := ok.con, io := ok.io, lx := .inr ⟨_, LX.of tk ok.hs ok.hf⟩, po := po, fn := ok.fn, tk := tk, hs := ok.hs, hf := ok.hf, xs := ok.xs, rm1 := ok.rm1 }
  cases nm with
  | none =>
    cases i with
    | some j => simp [chkNm] at hn
    | none =>
      refine (ps_try_only (Wout := W) ok.hs ok.hf nmC ok.tk body (ts := fun a0 cl dd => fun D σ H => ∃ x : Xc, x.cls = cls ∧ tRet (tXR X.K X.mg none a0 cl dd x (r.val x)) D σ H) (fun a0 oe cl dd pn hz hf =>
        ⟨fun pins s σ H D I ⟨x, hc, q⟩ => (pss_one (ps_ret (pe_xr ok hps hn hz hf x hc r y hr))).run pins s σ H D I q⟩)).mono fun D σ H ⟨Z, S, s, h⟩ => ⟨Z, S, s, ?_⟩
      dsimp only at h
      cases q : fb S with
      | exc x S' =>
        rw [q] at h
        dsimp only at h
        split at h
        case isFalse => exact h.elim
        rename_i hc
        intro cl dd σ' Z' H' st' s' rx
        refine ⟨true, ?_, fun _ a0 _ => ⟨x, hc.1, ?_⟩, fun z => Bool.noConfusion z⟩
        · obtain ⟨C', m', rfl, _⟩ := rx
          rw [hc.1, hm] at m'
          cases m'
          exact te
        · cases hv : r.val x with
          | none => rw [hv] at h; exact h.elim
          | some d =>
            rw [hv] at h
            exact ⟨Z', d, s'.zi, fun j z => (by cases z), rx, rfl, fun u Z2 H2 g ru => h u σ' Z2 H2 (st'.trans g.step) (s'.grow g) ru⟩
      | nx S' => rw [q] at h; exact h
      | rt _ _ => rw [q] at h; exact h
      | rtF _ _ => rw [q] at h; exact h
      | rtT _ _ _ _ => rw [q] at h; exact h
      | bk _ => rw [q] at h; exact h
      | ct _ => rw [q] at h; exact h
      | bad => rw [q] at h; exact h
  | some y0 =>
    cases i with
    | none => simp [chkNm] at hn
    | some j =>
      have hn' := hn
      simp only [chkNm, Bool.and_eq_true, decide_eq_true_eq] at hn'
      refine (ps_try_as (Wout := W) (i := j) ok.hs ok.hf ok.nd (by rw [ok.N]; exact hn'.1.1) (by show X.env.scope.names.lookup y0 = _; rw [ok.sc]; exact hn'.1.2) nmC ok.tk body (ts := fun a0 cl dd => fun D σ H => ∃ x : Xc, x.cls = cls ∧ tRet (tXR X.K X.mg (some j) a0 cl dd x (r.val x)) D σ H) (fun a0 oe cl dd pn hz hf =>
        ⟨fun pins s σ H D I ⟨x, hc, q⟩ => (pss_one (ps_ret (pe_xr ok hps hn hz hf x hc r y hr))).run pins s σ H D I q⟩)).mono fun D σ H ⟨Z, S, s, h⟩ => ⟨Z, S, s, ?_⟩
      dsimp only at h
      cases q : fb S with
      | exc x S' =>
        rw [q] at h
        dsimp only at h
        split at h
        case isFalse => exact h.elim
        rename_i hc
        intro cl dd σ' Z' H' st' s' rx
        refine ⟨true, ?_, fun _ a0 _ => ⟨x, hc.1, ?_⟩, fun z => Bool.noConfusion z⟩
        · obtain ⟨C', m', rfl, _⟩ := rx
          rw [hc.1, hm] at m'
          cases m'
          exact te
        · cases hv : r.val x with
          | none => rw [hv] at h; exact h.elim
          | some d =>
            rw [hv] at h
            have lt : j < σ'.length := by rw [← s'.ln]; exact hc.2 j rfl
            exact ⟨Z', d, s'.zi, fun j' z => (by cases z; simp [lt]), rx, rfl, fun u Z2 H2 g ru => h u σ' Z2 H2 (st'.trans g.step) (s'.grow g) ru⟩
      | nx S' => rw [q] at h; exact h
      | rt _ _ => rw [q] at h; exact h
      | rtF _ _ => rw [q] at h; exact h
      | rtT _ _ _ _ => rw [q] at h; exact h
      | bk _ => rw [q] at h; exact h
      | ct _ => rw [q] at h; exact h
      | bad => rw [q] at h; exact h
end
end Dv

namespace Dv
open PySem PySem.Spec L2
/-! except cls as n: if (n.f, ..) != (.., ..): return False -/
/-- a slot's name is gone -/
theorem SR.drop {K : PySem.W.Frag} {e : Ent} {Z : Zn} {H : Hp} {σ : L2.St} {S : Sto} {i : Nat} {o : Option V} (s : SR K e Z H σ S) (hi : ∀ a, e.M a → i ≠ 0) : SR K e Z H (σ.set i o) (S.set i .no) where
  ln := by simp [s.ln]
  fro := fun j d' h => by
    by_cases hj : i = j
    · subst hj
      rw [List.getElem?_set] at h
      split at h
      · split at h <;> cases h
      · rename_i z; exact absurd rfl z
    · rw [List.getElem?_set_ne hj] at h ⊢
      exact s.fro j d' h
  own := fun j o h => by
    by_cases hj : i = j
    · subst hj
      rw [List.getElem?_set] at h
      split at h
      · split at h <;> cases h
      · rename_i z; exact absurd rfl z
    · rw [List.getElem?_set_ne hj] at h ⊢
      exact s.own j o h
  sep := fun j k o o' a h1 h2 h3 h4 => by
    have nj : i ≠ j := by
      rintro rfl
      rw [List.getElem?_set] at h1
      split at h1
      · split at h1 <;> cases h1
      · rename_i z; exact absurd rfl z
    have nk : i ≠ k := by
      rintro rfl
      rw [List.getElem?_set] at h2
      split at h2
      · split at h2 <;> cases h2
      · rename_i z; exact absurd rfl z
    rw [List.getElem?_set_ne nj] at h1 h3
    rw [List.getElem?_set_ne nk] at h2 h4
    exact s.sep j k o o' a h1 h2 h3 h4
  zi := s.zi
  ze := s.ze
  st := s.st
  kp := s.kp
  mi := fun a m => by
    obtain ⟨h1, h2, h3, h4⟩ := s.mi a m
    exact ⟨h1, h2, h3, by rw [List.getElem?_set_ne (hi a m)]; exact h4⟩
  pn := fun a o h => by
    obtain ⟨h1, h2, h3⟩ := s.pn a o h
    refine ⟨h1, h2, fun j o' hj => ?_⟩
    have nj : i ≠ j := by
      rintro rfl
      rw [List.getElem?_set] at hj
      split at hj
      · split at hj <;> cases hj
      · rename_i z; exact absurd rfl z
    rw [List.getElem?_set_ne nj] at hj ⊢
    exact h3 j o' hj
  te := s.te
  tb := s.tb
section
variable {st : Sta} {sc : Scope} {c : Cfg} {e : Ent} {W : WX} {X : Cx} {ys : List Stmt} {pos : Pos}
/-- what stands at the right of the test -/
def SW (K : PySem.W.Frag) (Z : Zn) (H : Hp) (σ : L2.St) : XW → D → Prop
  | .str z, d => d = .str z
  | .var j, d => ∃ v, σ[j]? = some (some v) ∧ R K Z H v d
def tW1 (K : PySem.W.Frag) (w : XW) : TE := fun σ H Q => ∃ Z d, SW K Z H σ w d ∧ ∀ u, R K Z H u d → Q u H
def tWn (K : PySem.W.Frag) (ws : List XW) : TA := fun σ H Q => ∃ Z ds, Paired (SW K Z H σ) ws ds ∧ ∀ us, Rs K Z H us ds → Q us H
theorem pe_xw (ok : CxS st sc c e W X) {a0 : Addr} {pn : List (Addr × Obj)} (w : XW) (y : Expr) (h : chkXW st sc w y = true) : PE (X.suite a0 pn) y (tW1 X.K w) := by
  cases w with
  | str z =>
    simp only [chkXW] at h
    split at h
    · rw [beq_iff_eq] at h
      subst h
      exact pe_str.mono fun σ H Q ⟨Z, d, ho, hq⟩ => by cases ho; exact hq _ (.str _)
    · cases h
  | var j =>
    simp only [chkXW] at h
    split at h
    · simp only [Bool.and_eq_true, decide_eq_true_eq] at h
      obtain ⟨n1, n3⟩ := h
      obtain ⟨v1, v2, v3⟩ := vis_of n3
      refine (pe_var (X := X.suite a0 pn) (by show X.N[j]? = _; rw [ok.N]; exact n1) (by show Vis X.env.scope _; rw [ok.sc]; exact v1) v2 v3).mono fun σ H Q ⟨Z, d, ⟨v, hv, r⟩, hq⟩ => ⟨v, hv, hq v r⟩
    · cases h
theorem pa_xw (ok : CxS st sc c e W X) {a0 : Addr} {pn : List (Addr × Obj)} : ∀ (ws : List XW) (ys : List Expr), chkXWs st sc ws ys = true → PA (X.suite a0 pn) ys (tWn X.K ws)
  | [], ys, h => by
    cases ys with
    | nil => exact pa_nil.mono fun σ H Q ⟨Z, ds, r, hq⟩ => by cases r; exact hq [] .nil
    | cons y ys => simp [chkXWs] at h
  | w :: ws, ys, h => by
    cases ys with
    | nil => simp [chkXWs] at h
    | cons y ys =>
      simp only [chkXWs, Bool.and_eq_true] at h
      refine (pa_cons (pe_xw ok w y h.1.2) (pa_xw ok ws ys h.2) (star_cons h.1.1)).mono fun σ H Q ⟨Z, ds, r, hq⟩ => ?_
      cases r with
      | cons a b => exact ⟨Z, _, a, fun u ru => ⟨Z, _, b, fun us rus => hq (u :: us) (.cons ru rus)⟩⟩
theorem XW.pair {K : PySem.W.Frag} {Z : Zn} {H : Hp} {σ : L2.St} {S : Sto} {n : Nat} {o : Option V} (s : SR K e Z H σ S) : ∀ {ws : List XW} {ds : List D}, ws.all (XW.not_ n) = true → XW.vals S ws = some ds → Paired (SW K Z H (σ.set n o)) ws ds ∧ ds.length = ws.length
  | [], ds, _, h => by cases h; exact ⟨.nil, rfl⟩
  | w :: ws, ds, hn, h => by
    rw [List.all_cons, Bool.and_eq_true] at hn
    unfold XW.vals at h
    cases q : w.val S with
    | none => rw [q] at h; cases h
    | some d =>
      rw [q, Option.bind_some] at h
      cases q2 : XW.vals S ws with
      | none => rw [q2] at h; cases h
      | some es =>
        rw [q2] at h
        cases h
        have ih := XW.pair (o := o) s hn.2 q2
        refine ⟨.cons ?_ ih.1, by simp [ih.2]⟩
        cases w with
        | str z => cases q; rfl
        | var j =>
          have nj : n ≠ j := by
            have := hn.1
            simp only [XW.not_, bne_iff_ne, ne_eq] at this
            exact fun z => this z.symm
          cases hj : S[j]? with
          | none => simp [XW.val, hj] at q
          | some sl =>
            cases sl with
            | fro d' =>
              simp [XW.val, hj] at q
              subst q
              obtain ⟨v, hv, r⟩ := s.fro j _ hj
              exact ⟨v, by rw [List.getElem?_set_ne nj]; exact hv, r⟩
            | no => simp [XW.val, hj] at q
            | own o => simp [XW.val, hj] at q
/-- the suite -/
theorem suite_if (ok : CxS st sc c e W X) {cls0 : Str} {ps : List Str} {n : Nat} {nm : Str} (hx : st.exs.lookup cls0 = some ps) (hn : chkNm st sc (some n) (some nm) = true) {a0 : Addr} {oe : Obj} {cls : Value} {dd : Option Addr} {pn : List (Addr × Obj)} (hz : Zc cls dd oe) (hf : ∃ vs, oe.data = .fields vs)
    (x : Xc) (hc : x.cls = cls0) {vs : List XV} {ws : List XW} {es1 es2 : List Expr} {k1 k2 : Nat} {q1 q2 q3 q4 q5 : Pos} {kk : Nat} (hv : chkXVs st cls0 (some nm) vs es1 = true) (hw : chkXWs st sc ws es2 = true) :
    PSs (X.suite a0 ((a0, oe) :: pn)) [.If (.Compare (.Tuple es1 k1 q1) [.NotEq] [.Tuple es2 k2 q2] q3) [.Return (some (.Constant (.bool false) kk q4)) q5] [] pos] (fun Dn σ H => ∃ Z ds es k, (∀ a, Z a → H a ≠ none) ∧ σ[n]? = some (some (V.ref a0)) ∧ RX X.K X.mg Z H cls dd x ∧ (vs.length ≤ 1000 ∧ ws.length ≤ 1000) ∧
      XV.vals x vs = some ds ∧ (Paired (SW X.K Z H σ) ws es ∧ es.length = ws.length) ∧ dNe (.tuple ds) (.tuple es) = some (.bool k) ∧ ∀ Z' H', Grow Z H Z' H' → if k = true then Dn.rt (.bl false) H' else Dn.nx σ H') := by
  have hu := ok.units
  have ul : (X.suite a0 ((a0, oe) :: pn)).A.units + 64 < cLine := by
    show X.A.units + 64 < cLine
    omega
  have cmp := pt_cmpR (pos := q3) (op_neP (X := X.suite a0 ((a0, oe) :: pn)) ul) (pe_xr ok hx hn hz hf x hc (.tup vs) (.Tuple es1 k1 q1) hv) (pe_tup (x1 := k2) (pos := q2) (pa_xw ok (a0 := a0) (pn := (a0, oe) :: pn) ws es2 hw)) rfl
  refine (pss_one (ps_if (pos := pos) cmp (pss_one (ps_ret (pos := q5) (pe_bl (j := kk) (pos := q4)))) pss_nil)).mono fun Dn σ H ⟨Z, ds, es, k, zi, hs, rx, hl, h1, h2, h3, hq⟩ => ?_
  refine ⟨Z, .tuple ds, zi, fun j z => by cases z; exact hs, rx, ?_, fun u Z1 H1 g1 ru => ⟨Z1, es, ?_, fun us rus => ⟨by rw [rus.length, h2.2]; exact Nat.le_trans hl.2 (by decide), fun p hp => ?_⟩⟩⟩
  · show (if vs.length ≤ sizeLine then (XV.vals x vs).map PyData.tuple else none) = _
    rw [if_pos (Nat.le_trans hl.1 (by decide)), h1]
    rfl
  · exact Pd.imp (fun w d r => by
      cases w with
      | str z => exact r
      | var j => obtain ⟨v, hv, r⟩ := r; exact ⟨v, hv, R.step g1.step r⟩) h2.1
  · have g2 : Grow Z1 H1 (Z1.put p) (upd H1 p (.tup us)) := Grow.new g1.i hp
    refine opd_cmp (K := X.K) (g := dNe) (bool_of fun a b => rfl) (Z1.put p) _ u (V.ref p) (.tuple ds) (.tuple es) _ _ g2.i (R.step g2.step ru) (.tup Zn.put_self upd_same (Rs.step g2.step rus)) h3 fun v Z3 H3 g3 rv => ⟨k, rv.bl_inv, ?_⟩
    have := hq Z3 H3 ((g1.trans g2).trans g3)
    cases k with
    | true => exact this
    | false => exact this
theorem s_tryI (ok : CxS st sc c e W X) {cls : Str} {n : Nat} {nm : Str} {vs : List XV} {ws : List XW} {es1 es2 : List Expr} {k1 k2 : Nat} {q1 q2 q3 q4 q5 q6 : Pos} {kk : Nat} {fb : Sto → Fl} {np p2 : Pos} (hg : glB sc cls = true) (hx : (st.exs.lookup cls).isSome = true) (hn : chkNm st sc (some n) (some nm) = true)
    (hv : chkXVs st cls (some nm) vs es1 = true) (hw : chkXWs st sc ws es2 = true)
    (hb : ∀ (W' : WX) (pn : List (Addr × Obj)) (xe : Value → Shared → Prop), CxS st sc c e W' (X.tr pn xe) → PSs (X.tr pn xe) ys (tS X.K X.mg W' e fb)) :
    PS X (.Try ys [.ExceptHandler (some (.Name cls np)) (some nm) [.If (.Compare (.Tuple es1 k1 q1) [.NotEq] [.Tuple es2 k2 q2] q3) [.Return (some (.Constant (.bool false) kk q4)) q5] [] q6] p2] [] [] pos) (tS X.K X.mg W e fun S => match fb S with
      | .exc x S' => tryIX c cls n vs ws x S'
      | f => f) := by
  obtain ⟨ps, hps⟩ := Option.isSome_iff_exists.mp hx
  obtain ⟨C, fI, fam, T, h0, h8, hm, xf, te⟩ := (ok.xs cls ps hps).ex
  obtain ⟨g1, g2, _⟩ := gl_of ok.sc hg
  have nmC : Names X cls (.ref C) := ⟨g1, g2, .inl hm⟩
  have body : ∀ (W' : WX) (pn : List (Addr × Obj)) (xe : Value → Shared → Prop), Takes (X.tr pn xe) W' → PassesOwn (model X.prog X.w) X.A X.env xe → PSs (X.tr pn xe) ys (tS X.K X.mg W' e fb) := fun W' pn xe tk po => hb W' pn xe
    { calm := ok.calm, nd := ok.nd, N := ok.N, sc := ok.sc, room := ok.room, tab := ok.tab, fns := ok.fns, cmg := ok.cmg, cw := ok.cw, cl := ok.cl, bl := ok.bl, con := ok.con, io := ok.io, lx := .inr ⟨_, LX.of tk ok.hs ok.hf⟩, po := po, fn := ok.fn, tk := tk, hs := ok.hs, hf := ok.hf, xs := ok.xs, rm1 := ok.rm1 }
  have hn' := hn
  simp only [chkNm, Bool.and_eq_true, decide_eq_true_eq] at hn'
  refine (ps_try_as (Wout := W) (i := n) ok.hs ok.hf ok.nd (by rw [ok.N]; exact hn'.1.1) (by show X.env.scope.names.lookup nm = _; rw [ok.sc]; exact hn'.1.2) nmC ok.tk body (ts := fun a0 cl dd => fun Dn σ H => ∃ x : Xc, x.cls = cls ∧ ∃ Z ds es k, (∀ a, Z a → H a ≠ none) ∧ σ[n]? = some (some (V.ref a0)) ∧ RX X.K X.mg Z H cl dd x ∧ (vs.length ≤ 1000 ∧ ws.length ≤ 1000) ∧
      XV.vals x vs = some ds ∧ (Paired (SW X.K Z H σ) ws es ∧ es.length = ws.length) ∧ dNe (.tuple ds) (.tuple es) = some (.bool k) ∧ ∀ Z' H', Grow Z H Z' H' → if k = true then Dn.rt (.bl false) H' else Dn.nx σ H') (fun a0 oe cl dd pn hz hf =>
    ⟨fun pins s σ H D I ⟨x, hc, q⟩ => (suite_if ok hps hn hz hf x hc hv hw).run pins s σ H D I q⟩)).mono fun D σ H ⟨Z, S, s, h⟩ => ⟨Z, S, s, ?_⟩
  dsimp only at h
  cases q : fb S with
  | exc x S' =>
    rw [q] at h
    dsimp only at h
    unfold tryIX at h
    split at h
    case isFalse => exact h.elim
    rename_i hc
    obtain ⟨hc1, hc2, ⟨hc3, hc4, hc5⟩, hc6⟩ := hc
    intro cl dd σ' Z' H' st' s' rx
    refine ⟨true, ?_, fun _ a0 _ => ⟨x, hc1, ?_⟩, fun z => Bool.noConfusion z⟩
    · obtain ⟨C', m', rfl, _⟩ := rx
      rw [hc1, hm] at m'
      cases m'
      exact te
    · have lt : n < σ'.length := by rw [← s'.ln]; exact hc2
      have hio : ∀ a, e.M a → n ≠ 0 := fun b mb z => by
        cases w : c.io with
        | false => exact ok.io w b mb
        | true => rw [w, z] at hc6; cases hc6
      cases hvs : XV.vals x vs with
      | none => rw [hvs] at h; exact h.elim
      | some ds =>
        rw [hvs] at h
        cases hws : XW.vals S' ws with
        | none => rw [hws] at h; exact h.elim
        | some es =>
          rw [hws] at h
          dsimp only at h
          have pr := XW.pair (o := some (V.ref a0)) (n := n) s' hc3 hws
          cases hne : dNe (.tuple ds) (.tuple es) with
          | none => rw [hne] at h; exact h.elim
          | some b =>
            obtain ⟨k, rfl⟩ := (bool_of (g := dNe) fun a b => rfl) _ _ _ hne
            rw [hne] at h
            refine ⟨Z', ds, es, k, s'.zi, by simp [lt], rx, ⟨hc4, hc5⟩, rfl, pr, hne, fun Z2 H2 g => ?_⟩
            cases k with
            | true => exact h (.bl false) σ' Z2 H2 (st'.trans g.step) (s'.grow g) (.bl false)
            | false =>
              dsimp only at h
              refine h _ Z2 H2 (st'.trans g.step) ?_
              rw [List.set_set]
              exact (s'.grow g).drop hio
  | nx S' => rw [q] at h; exact h
  | rt _ _ => rw [q] at h; exact h
  | rtF _ _ => rw [q] at h; exact h
  | rtT _ _ _ _ => rw [q] at h; exact h
  | bk _ => rw [q] at h; exact h
  | ct _ => rw [q] at h; exact h
  | bad => rw [q] at h; exact h
end
end Dv

namespace Dv
open PySem PySem.Spec L2
/-! except base as n: if not isinstance(n, cls): return None; return (n.f, ..) -/
/-- isinstance(n, C), n the exception that the suite holds, with its fields -/
theorem call_isX {X : Cx} {a C : Addr} {oe : Obj} {cl : Value} {dd : Option Addr} {pn : List (Addr × Obj)} (E : ExcC X.K C) (hk : PySem.W.kitOne X.K (.ref C) (.ref C) = some true) (hz : Zc cl dd oe) (hf : ∃ vs, oe.data = .fields vs) :
    CallR (X.suite a ((a, oe) :: pn)) (.builtin "isinstance") (fun xs H Q => xs = [.ref a, .ref C] ∧ cl = .ref C ∧ (∃ d fs, dd = some d ∧ H d = some (.xd fs)) ∧ Q (.bl true) H) := by
  rintro pins s σ H _ us Q I r ⟨rfl, rfl, ⟨d, fs, rfl, hd⟩, q⟩
  have hus : us = [.ref a, .ref C] := by
    cases r with
    | cons h t =>
      cases h
      cases t with
      | cons h2 t2 => cases h2; cases t2; rfl
  subst hus
  obtain ⟨m, ns, _⟩ := I.hok d _ hd
  obtain ⟨od, ho, _⟩ := lookIn_ns ns
  obtain ⟨cd, hc, _⟩ := PySem.W.any_some E.hd
  obtain ⟨vs, hv⟩ := hf
  have pin := (I.pin (a, oe) (List.mem_append_left _ (List.mem_cons_self ..))).1
  have J : PySem.W.InstAt s.heap a oe C (some od) := ⟨pin, hz.1, by unfold PySem.W.notCls; rw [hv] <;> rfl, by rw [hz.2]; exact ho⟩
  have hcl : (PySem.W.clsIn X.K C).isSome = true := by rw [hc]; rfl
  exact PySem.W.kia_one (PySem.W.kitx_exc hcl E.hg E.hk E.hs E.ha E.hn E.ht E.hm) I.kIn J hk (fun z => nomatch z) fun tk => ⟨.bl true, H, I.tok _, rfl, q⟩
section
variable {st : Sta} {sc : Scope} {c : Cfg} {e : Ent} {W : WX} {X : Cx} {ys : List Stmt} {pos : Pos}
/-- the suite -/
theorem suite_isi (ok : CxS st sc c e W X) {cls0 : Str} {ps : List Str} {n : Nat} {nm : Str} (hx : st.exs.lookup cls0 = some ps) (hn : chkNm st sc (some n) (some nm) = true) (hcl : glB sc cls0 = true) (hi : glB sc "isinstance" = true) (hbl : st.bl.contains ("isinstance" : Str) = true) {C : Addr} (hmC : X.mg cls0 = some (.ref C)) (hE : ExcC X.K C) (hk : PySem.W.kitOne X.K (.ref C) (.ref C) = some true)
    {a0 : Addr} {oe : Obj} {cl : Value} {dd : Option Addr} {pn : List (Addr × Obj)} (hz : Zc cl dd oe) (hf : ∃ vs, oe.data = .fields vs) (x : Xc) (hc : x.cls = cls0) {vs : List XV} {es : List Expr} {k2 kk : Nat} {q1 q2 q3 q4 q5 q6 q7 q8 q9 q10 : Pos} (hv : chkXVs st cls0 (some nm) vs es = true) :
    PSs (X.suite a0 ((a0, oe) :: pn)) [.If (.UnaryOp .Not (.Call (.Name "isinstance" q1) [.Name nm q2, .Name cls0 q3] [] q4) q5) [.Return (some (.Constant .none kk q6)) q7] [] q8, .Return (some (.Tuple es k2 q9)) q10]
      (tRet (tXR X.K X.mg (some n) a0 cl dd x ((XR.tup vs).val x))) := by
  obtain ⟨g1, g2, g3⟩ := gl_of ok.sc hi
  obtain ⟨c1, c2, c3⟩ := gl_of ok.sc hcl
  have hn' := hn
  simp only [chkNm, Bool.and_eq_true, decide_eq_true_eq] at hn'
  obtain ⟨⟨n1, n2⟩, n3⟩ := hn'
  obtain ⟨v1, v2, v3⟩ := vis_of n3
  have pv : PE (X.suite a0 ((a0, oe) :: pn)) (.Name nm q2) (tVar n) := pe_var (X := X.suite a0 ((a0, oe) :: pn)) (by show X.N[n]? = _; rw [ok.N]; exact n1) (by show Vis X.env.scope nm; rw [ok.sc]; exact v1) v2 v3
  have pc : PE (X.suite a0 ((a0, oe) :: pn)) (.Name cls0 q3) (tC (.ref C)) := pe_glob (X := X.suite a0 ((a0, oe) :: pn)) c1 hmC rfl c2
  have cal := pe_callB (pos := q4) (p := q1) (call_isX (pn := pn) hE hk hz hf) g1 (ok.bl _ hbl) (by decide +kernel) (pa_cons pv (pa_cons pc pa_nil)) g3 g2
  refine (pss_cons (ps_if (pos := q8) (pt_not (pos := q5) (pt_val cal)) (pss_one (ps_ret (pos := q7) (pe_non (j := kk) (pos := q6)))) pss_nil) (pss_one (ps_ret (pos := q10) (pe_xr ok hx hn hz hf x hc (.tup vs) (.Tuple es k2 q9) hv)))).mono fun Dn σ H w => ?_
  obtain ⟨Z, d, zi, hs, rx, ho, hq⟩ := id w
  obtain ⟨C', m', e', da, fs, edd, zd, hd, pr⟩ := id rx
  rw [hc, hmC] at m'
  cases m'
  exact ⟨V.ref a0, hs n rfl, rfl, e', ⟨da, fs, edd, hd⟩, true, rfl, w⟩
theorem s_tryB (ok : CxS st sc c e W X) {base cls : Str} {n : Nat} {nm : Str} {vs : List XV} {es : List Expr} {k2 kk : Nat} {q1 q2 q3 q4 q5 q6 q7 q8 q9 q10 : Pos} {fb : Sto → Fl} {np p2 : Pos} (hg : glB sc base = true) (hcl : glB sc cls = true) (hi : glB sc "isinstance" = true) (hbl : st.bl.contains ("isinstance" : Str) = true) (hx : (st.exs.lookup cls).isSome = true) (hup : base ∈ upOf cls) (hn : chkNm st sc (some n) (some nm) = true)
    (hv : chkXVs st cls (some nm) vs es = true)
    (hb : ∀ (W' : WX) (pn : List (Addr × Obj)) (xe : Value → Shared → Prop), CxS st sc c e W' (X.tr pn xe) → PSs (X.tr pn xe) ys (tS X.K X.mg W' e fb)) :
    PS X (.Try ys [.ExceptHandler (some (.Name base np)) (some nm) [.If (.UnaryOp .Not (.Call (.Name "isinstance" q1) [.Name nm q2, .Name cls q3] [] q4) q5) [.Return (some (.Constant .none kk q6)) q7] [] q8, .Return (some (.Tuple es k2 q9)) q10] p2] [] [] pos) (tS X.K X.mg W e fun S => match fb S with
      | .exc x S' => tryBX cls n vs x S'
      | f => f) := by
  obtain ⟨ps, hps⟩ := Option.isSome_iff_exists.mp hx
  obtain ⟨C, B, hmC, hmB, te, hE, hk⟩ := ((ok.xs cls ps hps).up base hup).ex
  obtain ⟨g1, g2, _⟩ := gl_of ok.sc hg
  have nmB : Names X base (.ref B) := ⟨g1, g2, .inl hmB⟩
  have body : ∀ (W' : WX) (pn : List (Addr × Obj)) (xe : Value → Shared → Prop), Takes (X.tr pn xe) W' → PassesOwn (model X.prog X.w) X.A X.env xe → PSs (X.tr pn xe) ys (tS X.K X.mg W' e fb) := fun W' pn xe tk po => hb W' pn xe
    { calm := ok.calm, nd := ok.nd, N := ok.N, sc := ok.sc, room := ok.room, tab := ok.tab, fns := ok.fns, cmg := ok.cmg, cw := ok.cw, cl := ok.cl, bl := ok.bl, con := ok.con, io := ok.io, lx := .inr ⟨_, LX.of tk ok.hs ok.hf⟩, po := po, fn := ok.fn, tk := tk, hs := ok.hs, hf := ok.hf, xs := ok.xs, rm1 := ok.rm1 }
  have hn' := hn
  simp only [chkNm, Bool.and_eq_true, decide_eq_true_eq] at hn'
  refine (ps_try_as (Wout := W) (i := n) ok.hs ok.hf ok.nd (by rw [ok.N]; exact hn'.1.1) (by show X.env.scope.names.lookup nm = _; rw [ok.sc]; exact hn'.1.2) nmB ok.tk body (ts := fun a0 cl dd => fun Dn σ H => ∃ x : Xc, x.cls = cls ∧ tRet (tXR X.K X.mg (some n) a0 cl dd x ((XR.tup vs).val x)) Dn σ H) (fun a0 oe cl dd pn hz hf =>
    ⟨fun pins s σ H D I ⟨x, hc, q⟩ => (suite_isi ok hps hn hcl hi hbl hmC hE hk hz hf x hc hv).run pins s σ H D I q⟩)).mono fun D σ H ⟨Z, S, s, h⟩ => ⟨Z, S, s, ?_⟩
  dsimp only at h
  cases q : fb S with
  | exc x S' =>
    rw [q] at h
    dsimp only at h
    unfold tryBX at h
    split at h
    case isFalse => exact h.elim
    rename_i hc
    intro cl dd σ' Z' H' st' s' rx
    refine ⟨true, ?_, fun _ a0 _ => ⟨x, hc.1, ?_⟩, fun z => Bool.noConfusion z⟩
    · obtain ⟨C', m', rfl, _⟩ := rx
      rw [hc.1, hmC] at m'
      cases m'
      exact te
    · cases hvs : (XR.tup vs).val x with
      | none => rw [hvs] at h; exact h.elim
      | some d =>
        rw [hvs] at h
        have lt : n < σ'.length := by rw [← s'.ln]; exact hc.2
        exact ⟨Z', d, s'.zi, fun j' z => (by cases z; simp [lt]), rx, rfl, fun u Z2 H2 g ru => h u σ' Z2 H2 (st'.trans g.step) (s'.grow g) ru⟩
  | nx S' => rw [q] at h; exact h
  | rt _ _ => rw [q] at h; exact h
  | rtF _ _ => rw [q] at h; exact h
  | rtT _ _ _ _ => rw [q] at h; exact h
  | bk _ => rw [q] at h; exact h
  | ct _ => rw [q] at h; exact h
  | bad => rw [q] at h; exact h
end
end Dv

namespace Dv
open PySem PySem.Spec L2
section
variable {st : Sta} {sc : Scope} {c : Cfg} {e : Ent} {W : WX} {X : Cx}
variable {ft : Sto → Res Bool} {fi : Sto → Res (List D)} {g1 : Sto → Fl} {bnd : D → Sto → Option Sto} {slots : List Nat} {x tg iter : Expr} {xs : List Stmt} {pos : Pos}
theorem s_for (ok : CxS st sc c e W X) (hp : plainE iter = true) (hi : PI X tg iter (tI X.K X.mg W e fi)) (hg : PG X tg (tGt X.K e slots bnd)) (hb : PSs X xs (tS X.K X.mg W e g1)) :
    PS X (.For tg iter xs [] pos) (tS X.K X.mg W e fun S => (fi S).fl fun ds S1 => forL (fun d S => match bnd d S with | some S' => g1 S' | none => .bad) ds S1) := by
  refine (ps_for ok.po ok.calm hi hg hb (folded_of hp)).mono fun D σ H ⟨Z, S, s, h⟩ => ?_
  refine ⟨Z, S, s, (AftS.fl (Rel := RelW X.K) h).mono fun J H1 ⟨Z1, ds, S1, _, st1, s1, wk, h1⟩ => ?_⟩
  generalize hbd : (fun d S => match bnd d S with | some S' => g1 S' | none => Fl.bad) = bd at h1
  refine ⟨fun i m σ2 H2 => m = ds.length - i ∧ i ≤ ds.length ∧ ∃ Z2 S2, Step Z1 H1 Z2 H2 ∧ SR X.K e Z2 H2 σ2 S2 ∧ AftS X.K X.mg W e Z2 H2 (forL bd (ds.drop i) S2) D,
    ⟨ds.length, rfl, Nat.zero_le _, Z1, S1, .refl, s1, by rw [List.drop_zero]; exact h1⟩, ?_⟩
  rintro i m σ2 H2 ⟨rfl, hle, Z2, S2, st2, s2, h2⟩
  by_cases hlt : i < ds.length
  · right
    refine ⟨wk.go i Z2 H2 st2 hlt, fun σ' H' => ∃ m', m' < ds.length - i ∧ m' = ds.length - (i + 1) ∧ i + 1 ≤ ds.length ∧ ∃ Z2 S2, Step Z1 H1 Z2 H' ∧ SR X.K e Z2 H' σ' S2 ∧ AftS X.K X.mg W e Z2 H' (forL bd (ds.drop (i + 1)) S2) D, fun σ' H' h => h, fun y H3 hy => ?_⟩
    obtain ⟨d, Z3, hd, gr, rx⟩ := wk.yld i Z2 H2 y H3 st2 s2.zi hlt hy
    have hdrop : ds.drop i = d :: ds.drop (i + 1) := by
      rw [List.drop_eq_getElem_cons hlt]
      rw [List.getElem?_eq_getElem hlt] at hd
      cases hd
      rfl
    rw [hdrop] at h2
    unfold forL at h2
    have e2 : bd d S2 = (match bnd d S2 with | some S' => g1 S' | none => .bad) := by rw [← hbd]
    rw [e2] at h2
    cases hbn : bnd d S2 with
    | none => rw [hbn] at h2; exact h2.elim
    | some S' =>
      rw [hbn] at h2
      dsimp only at h2
      refine ⟨Z3, S2, d, S', s2.grow gr, rx, hbn, fun σ' s' _ => ⟨Z3, S', s', ?_⟩⟩
      have go : ∀ (S'' : Sto), AftS X.K X.mg W e Z2 H2 (forL bd (ds.drop (i + 1)) S'') D → ∀ σ' Z' H', Step Z3 H3 Z' H' → SR X.K e Z' H' σ' S'' →
          ∃ m', m' < ds.length - i ∧ m' = ds.length - (i + 1) ∧ i + 1 ≤ ds.length ∧ ∃ Z2 S2, Step Z1 H1 Z2 H' ∧ SR X.K e Z2 H' σ' S2 ∧ AftS X.K X.mg W e Z2 H' (forL bd (ds.drop (i + 1)) S2) D := fun S'' hh σ' Z' H' st' sr =>
        ⟨_, by omega, rfl, hlt, Z', S'', st2.trans (gr.step.trans st'), sr, AftS.step (gr.step.trans st') hh⟩
      cases q : g1 S' with
      | nx S'' => rw [q] at h2; exact go S'' h2
      | ct S'' => rw [q] at h2; exact go S'' h2
      | bk S'' => rw [q] at h2; exact fun σ' Z' H' st' sr => h2 σ' Z' H' (gr.step.trans st') sr
      | rt d' S'' => rw [q] at h2; exact fun v σ' Z' H' st' sr rv => h2 v σ' Z' H' (gr.step.trans st') sr rv
      | rtF d' S'' => rw [q] at h2; exact fun v σ' Z' H' st' sr rv => h2 v σ' Z' H' (gr.step.trans st') sr rv
      | rtT a' b' o' S'' => rw [q] at h2; exact fun v p q' u1 u2 σ' Z' H' st' sr rv => h2 v p q' u1 u2 σ' Z' H' (gr.step.trans st') sr rv
      | exc xx S'' => rw [q] at h2; exact fun a b σ' Z' H' st' sr rv => h2 a b σ' Z' H' (gr.step.trans st') sr rv
      | bad => rw [q] at h2; exact h2.elim
  · left
    have ei : i = ds.length := by omega
    subst ei
    rw [List.drop_length] at h2
    exact ⟨wk.stop Z2 H2 st2, h2 σ2 Z2 H2 .refl s2⟩
theorem s_while (ok : CxS st sc c e W X) (ht : PT X x (tB X.K X.mg W e ft)) (hb : PSs X xs (tS X.K X.mg W e g1)) : PS X (.While x xs [] pos) (tS X.K X.mg W e fun S => whileL ft g1 wfuel S) := by
  refine (ps_while ok.po ht hb).mono fun D σ H ⟨Z, S, s, h⟩ => ?_
  refine ⟨fun m σ H => ∃ Z S, SR X.K e Z H σ S ∧ AftS X.K X.mg W e Z H (whileL ft g1 m S) D, ⟨wfuel, Z, S, s, h⟩, ?_⟩
  rintro m σ2 H2 ⟨Z2, S2, s2, h2⟩
  cases m with
  | zero => exact h2.elim
  | succ n =>
    unfold whileL at h2
    refine ⟨Z2, S2, s2, (AftS.fl (Rel := RelB) h2).mono fun k H3 ⟨Z3, k', S3, _, st3, s3, rk, h3⟩ => ?_⟩
    have rk : k = k' := rk
    subst rk
    cases k with
    | false => exact h3 σ2 Z3 H3 .refl s3
    | true =>
      rw [if_pos rfl] at h3 ⊢
      refine ⟨fun σ' H' => ∃ m', m' < n + 1 ∧ ∃ Z S, SR X.K e Z H' σ' S ∧ AftS X.K X.mg W e Z H' (whileL ft g1 m' S) D, fun _ _ h => h, Z3, S3, s3, ?_⟩
      cases q : g1 S3 with
      | nx S'' => rw [q] at h3; exact fun σ' Z' H' st' sr => ⟨n, Nat.lt_succ_self n, Z', S'', sr, AftS.step st' h3⟩
      | ct S'' => rw [q] at h3; exact fun σ' Z' H' st' sr => ⟨n, Nat.lt_succ_self n, Z', S'', sr, AftS.step st' h3⟩
      | bk S'' => rw [q] at h3; exact h3
      | rt d' S'' => rw [q] at h3; exact h3
      | rtF d' S'' => rw [q] at h3; exact h3
      | rtT a' b' o' S'' => rw [q] at h3; exact h3
      | exc xx S'' => rw [q] at h3; exact h3
      | bad => rw [q] at h3; exact h3.elim
/-- y = [..] -/
theorem s_ownLc (ok : CxS st sc c e W X) {i : Nat} {v : Str} {pv : Pos} (hN : st.N[i]? = some v) (hv : asgB sc sc v = true) {f : CF} (hf : chkF st sc f x = true) :
    PS X (.Assign [.Name v pv] x pos) (tS X.K X.mg W e fun S => (evF c f S).fl fun o S1 => if c.io && i == 0 then .bad else .nx (S1.set i (.own o))) := by
  by_cases hs : swapsWith x (some (.Name v pv)) pos.line X.env = pure false
  · exact s_own ok hN hv hs (evF_ok f ok.toCxOk x hf)
  · -- a comprehension that stores its list itself
    cases f with
    | lst es => exact absurd (by cases x <;> first | rfl | simp [chkF] at hf) hs
    | cat a b => exact absurd (by cases x <;> first | rfl | simp [chkF] at hf) hs
    | sortK ky y a => exact absurd (by cases x <;> first | rfl | simp [chkF] at hf) hs
    | bl b a => exact absurd (by cases x <;> first | rfl | simp [chkF] at hf) hs
    | dnew => exact absurd (by cases x <;> first | rfl | simp [chkF] at hf) hs
    | listO j => exact absurd (by cases x <;> first | rfl | simp [chkF] at hf) hs
    | keysD j => exact absurd (by cases x <;> first | rfl | simp [chkF] at hf) hs
    | sortD j => exact absurd (by cases x <;> first | rfl | simp [chkF] at hf) hs
    | give j => exact absurd (by cases x <;> first | rfl | simp [chkF] at hf) hs
    | repE es a => exact absurd (by cases x <;> first | rfl | simp [chkF] at hf) hs
    | rep es k => exact absurd (by cases x <;> first | rfl | simp [chkF] at hf) hs
    | call g es => exact absurd (by cases x <;> first | rfl | simp [chkF] at hf) hs
    | lc own t it cc elt =>
      have h := hf
      unfold chkF at h
      split at h
      · rename_i y tg iter ifs scope lpos
        simp only [Bool.and_eq_true] at h
        obtain ⟨⟨⟨⟨⟨⟨h1, h2⟩, h3⟩, h4⟩, h5⟩, h6⟩, h7⟩ := h
        have hb : blkC X.N X.env.scope scope own = true := by rw [ok.N, ok.sc]; exact h1
        have hsl : ∀ i ∈ t.slots, i ∈ own.map (·.2) := fun i hi => by
          have := List.all_eq_true.mp h5 i hi
          simpa using this
        have hi := evI_ok it ok.toCxOk _ _ h3
        have hsw : swapsWith (.ListComp y [⟨tg, iter, ifs, 0⟩] scope lpos) (some (.Name v pv)) pos.line X.env = pure true := by
          have q : swapsWith (.ListComp y [⟨tg, iter, ifs, 0⟩] scope lpos) (some (.Name v pv)) pos.line X.env = pure (X.env.blockKind == .function && X.env.kindOf v == some .local && pv.line == lpos.line && !(scope.names.any fun (n, k) => n == v && (k == .local || k == .cell))) := rfl
          rw [q] at hs ⊢
          cases r : (X.env.blockKind == .function && X.env.kindOf v == some .local && pv.line == lpos.line && !(scope.names.any fun (n, k) => n == v && (k == .local || k == .cell))) with
          | true => rfl
          | false => rw [r] at hs; exact absurd rfl hs
        have hyl : X.env.scope.names.lookup v = some .local := by
          have q : swapsWith (.ListComp y [⟨tg, iter, ifs, 0⟩] scope lpos) (some (.Name v pv)) pos.line X.env = pure (X.env.blockKind == .function && X.env.kindOf v == some .local && pv.line == lpos.line && !(scope.names.any fun (n, k) => n == v && (k == .local || k == .cell))) := rfl
          cases r : (X.env.blockKind == .function && X.env.kindOf v == some .local && pv.line == lpos.line && !(scope.names.any fun (n, k) => n == v && (k == .local || k == .cell))) with
          | true =>
            simp only [Bool.and_eq_true, beq_iff_eq] at r
            exact r.1.1.2
          | false => rw [q, r] at hs; exact absurd rfl hs
        exact (ps_setLcX (g := exG X.K e.M e.T t.slots (bindG c t)) (tt := fun σ => exB X.K X.mg (Wat W σ) e.M e.T (evC c cc)) (te := fun σ => exE X.K X.mg (Wat W σ) e.M e.T (ev c elt)) ok.calm ok.nd (by rw [ok.N]; exact hN) hyl hsw hi (blkOk_by hb) (fun pins σ s H cl fp bg =>
          ⟨⟨fun pins s' σ H' v u Q I r ⟨e', he', h⟩ => (dg_of (blk_ok (c := c) ok.toCxOk he' bg) (raw := scope) (fun y hy => beq_cell hy) h4).run pins s' σ H' v u Q I r h⟩,
          ⟨fun pins s' σ H' Q I ⟨e', he', h⟩ => (evC_ok cc (blk_ok (c := c) (e' := e') ok.toCxOk he' bg) ifs h6).run pins s' σ H' Q I h⟩,
          ⟨fun pins s' σ H' Q I ⟨e', he', h⟩ => (ev_ok elt (blk_ok (c := c) (e' := e') ok.toCxOk he' bg) y h7).run pins s' σ H' Q I h⟩⟩) (folded_of h2)).mono fun D σ H h => d_lc ok.toCxOk hsl σ H _ (s_own_end ok h)
      · cases h
    | lc2 own t it t1 it1 elt =>
      have h := hf
      unfold chkF at h
      split at h
      · rename_i y tg iter tg1 iter1 scope lpos
        simp only [Bool.and_eq_true] at h
        obtain ⟨⟨⟨⟨⟨⟨⟨⟨⟨h1, h2⟩, h3⟩, h4⟩, h5⟩, h6⟩, h7⟩, h8⟩, h9⟩, h10⟩ := h
        have hb : blkC X.N X.env.scope scope own = true := by rw [ok.N, ok.sc]; exact h1
        have all : ∀ {l : List Nat}, (l.all fun i => (own.map (·.2)).contains i) = true → ∀ i ∈ l, i ∈ own.map (·.2) := fun h i hi => by
          have := List.all_eq_true.mp h i hi
          simpa using this
        have q : swapsWith (.ListComp y [⟨tg, iter, [], 0⟩, ⟨tg1, iter1, [], 0⟩] scope lpos) (some (.Name v pv)) pos.line X.env = pure (X.env.blockKind == .function && X.env.kindOf v == some .local && pv.line == lpos.line && !(scope.names.any fun (n, k) => n == v && (k == .local || k == .cell))) := rfl
        have r : (X.env.blockKind == .function && X.env.kindOf v == some .local && pv.line == lpos.line && !(scope.names.any fun (n, k) => n == v && (k == .local || k == .cell))) = true := by
          cases r : (X.env.blockKind == .function && X.env.kindOf v == some .local && pv.line == lpos.line && !(scope.names.any fun (n, k) => n == v && (k == .local || k == .cell))) with
          | true => rfl
          | false => rw [q, r] at hs; exact absurd rfl hs
        have hsw := q.trans (congrArg pure r)
        simp only [Bool.and_eq_true, beq_iff_eq] at r
        exact (ps_setLc2 (vs1 := t1.slots) (g := exG X.K e.M e.T t.slots (bindG c t)) (tt := tYes) (wi1 := exI X.K X.mg W0 e.M e.T (evI c it1)) (g1 := exG X.K e.M e.T t1.slots (bindG c t1)) (tt1 := tYes) (te := exE X.K X.mg W0 e.M e.T (ev c elt)) ok.calm ok.nd (by rw [ok.N]; exact hN) r.1.1.2 hsw (evI_ok it ok.toCxOk _ _ h4) (blkOk_by hb) (all h9)
          (fun s H C cl fp => ⟨fun pins s' σ H' v u Q I r ⟨e', he', h⟩ => (dg_of (blk0_ok (c := c) ok.toCxOk he') (raw := scope) (fun y hy => beq_cell hy) h5).run pins s' σ H' v u Q I r h⟩) (fun s H C cl fp => pts_nil)
          (fun s H C cl fp => ⟨fun pins s' σ H' Q I ⟨e', he', h⟩ => (evI_ok it1 (blk0_ok (c := c) (e' := e') ok.toCxOk he') tg1 iter1 h7).run pins s' σ H' Q I h⟩)
          (fun s H C cl fp => ⟨fun pins s' σ H' v u Q I r ⟨e', he', h⟩ => (dg_of (blk0_ok (c := c) ok.toCxOk he') (raw := scope) (fun y hy => beq_cell hy) h8).run pins s' σ H' v u Q I r h⟩) (fun s H C cl fp => pts_nil)
          (fun s H C cl fp => ⟨fun pins s' σ H' Q I ⟨e', he', h⟩ => (ev_ok elt (blk0_ok (c := c) (e' := e') ok.toCxOk he') y h10).run pins s' σ H' Q I h⟩) (folded_of h2) (fun env => folded_of h3)).mono fun D σ H h => d_lc2 ok.toCxOk (all h6) (all h9) σ H _ (s_own_end ok h)
      · cases h
    | lcD own j t cc elt =>
      have h := hf
      unfold chkF at h
      split at h
      · rename_i y tg v2 vp ifs scope lpos
        simp only [Bool.and_eq_true, decide_eq_true_eq] at h
        obtain ⟨⟨⟨⟨⟨⟨h1, h2⟩, h3⟩, h4⟩, h5⟩, h6⟩, h7⟩ := h
        have hb : blkC X.N X.env.scope scope own = true := by rw [ok.N, ok.sc]; exact h1
        have hsl : ∀ i ∈ t.slots, i ∈ own.map (·.2) := fun i hi => by
          have := List.all_eq_true.mp h5 i hi
          simpa using this
        have hi := pi_w (tg := tg) (p := vp) ok.toCxOk h2 h3
        have hsw : swapsWith (.ListComp y [⟨tg, .Name v2 vp, ifs, 0⟩] scope lpos) (some (.Name v pv)) pos.line X.env = pure true := by
          have q : swapsWith (.ListComp y [⟨tg, .Name v2 vp, ifs, 0⟩] scope lpos) (some (.Name v pv)) pos.line X.env = pure (X.env.blockKind == .function && X.env.kindOf v == some .local && pv.line == lpos.line && !(scope.names.any fun (n, k) => n == v && (k == .local || k == .cell))) := rfl
          rw [q] at hs ⊢
          cases r : (X.env.blockKind == .function && X.env.kindOf v == some .local && pv.line == lpos.line && !(scope.names.any fun (n, k) => n == v && (k == .local || k == .cell))) with
          | true => rfl
          | false => rw [r] at hs; exact absurd rfl hs
        have hyl : X.env.scope.names.lookup v = some .local := by
          have q : swapsWith (.ListComp y [⟨tg, .Name v2 vp, ifs, 0⟩] scope lpos) (some (.Name v pv)) pos.line X.env = pure (X.env.blockKind == .function && X.env.kindOf v == some .local && pv.line == lpos.line && !(scope.names.any fun (n, k) => n == v && (k == .local || k == .cell))) := rfl
          cases r : (X.env.blockKind == .function && X.env.kindOf v == some .local && pv.line == lpos.line && !(scope.names.any fun (n, k) => n == v && (k == .local || k == .cell))) with
          | true =>
            simp only [Bool.and_eq_true, beq_iff_eq] at r
            exact r.1.1.2
          | false => rw [q, r] at hs; exact absurd rfl hs
        exact (ps_lock (ps_setLcX (g := exG X.K e.M e.T t.slots (bindG c t)) (tt := fun σ => exB X.K X.mg (Wat W σ) e.M e.T (evC c cc)) (te := fun σ => exE X.K X.mg (Wat W σ) e.M e.T (ev c elt)) ok.calm ok.nd (by rw [ok.N]; exact hN) hyl hsw hi (blkOk_by hb) (fun pins σ s H cl fp bg =>
          ⟨⟨fun pins s' σ H' v u Q I r ⟨e', he', h⟩ => (dg_of (blk_ok (c := c) ok.toCxOk he' bg) (raw := scope) (fun y hy => beq_cell hy) h4).run pins s' σ H' v u Q I r h⟩,
          ⟨fun pins s' σ H' Q I ⟨e', he', h⟩ => (evC_ok cc (blk_ok (c := c) (e' := e') ok.toCxOk he' bg) ifs h6).run pins s' σ H' Q I h⟩,
          ⟨fun pins s' σ H' Q I ⟨e', he', h⟩ => (ev_ok elt (blk_ok (c := c) (e' := e') ok.toCxOk he' bg) y h7).run pins s' σ H' Q I h⟩⟩) (folded_of rfl))).mono fun D σ H h => d_lcD ok.toCxOk hsl σ H _ (s_own_end ok h)
      · cases h
    | lcP own j t cc elt =>
      have h := hf
      unfold chkF at h
      split at h
      · rename_i y elts kk tp v2 vp m p2 p3 ifs scope lpos
        simp only [Bool.and_eq_true, decide_eq_true_eq, beq_iff_eq] at h
        obtain ⟨⟨⟨⟨⟨⟨⟨⟨h1, rfl⟩, hl⟩, h2⟩, h3⟩, h4⟩, h5⟩, h6⟩, h7⟩ := h
        have hb : blkC X.N X.env.scope scope own = true := by rw [ok.N, ok.sc]; exact h1
        have hsl : ∀ i ∈ t.slots, i ∈ own.map (·.2) := fun i hi => by
          have := List.all_eq_true.mp h5 i hi
          simpa using this
        have hi := pi_p (elts := elts) (kk := kk) (tpos := tp) (p := vp) ok.toCxOk h2 h3 (beq_iff_eq.mpr hl)
        have hsw : swapsWith (.ListComp y [⟨.Tuple elts kk tp, .Call (.Attribute (.Name v2 vp) "items" p2) [] [] p3, ifs, 0⟩] scope lpos) (some (.Name v pv)) pos.line X.env = pure true := by
          have q : swapsWith (.ListComp y [⟨.Tuple elts kk tp, .Call (.Attribute (.Name v2 vp) "items" p2) [] [] p3, ifs, 0⟩] scope lpos) (some (.Name v pv)) pos.line X.env = pure (X.env.blockKind == .function && X.env.kindOf v == some .local && pv.line == lpos.line && !(scope.names.any fun (n, k) => n == v && (k == .local || k == .cell))) := rfl
          rw [q] at hs ⊢
          cases r : (X.env.blockKind == .function && X.env.kindOf v == some .local && pv.line == lpos.line && !(scope.names.any fun (n, k) => n == v && (k == .local || k == .cell))) with
          | true => rfl
          | false => rw [r] at hs; exact absurd rfl hs
        have hyl : X.env.scope.names.lookup v = some .local := by
          have q : swapsWith (.ListComp y [⟨.Tuple elts kk tp, .Call (.Attribute (.Name v2 vp) "items" p2) [] [] p3, ifs, 0⟩] scope lpos) (some (.Name v pv)) pos.line X.env = pure (X.env.blockKind == .function && X.env.kindOf v == some .local && pv.line == lpos.line && !(scope.names.any fun (n, k) => n == v && (k == .local || k == .cell))) := rfl
          cases r : (X.env.blockKind == .function && X.env.kindOf v == some .local && pv.line == lpos.line && !(scope.names.any fun (n, k) => n == v && (k == .local || k == .cell))) with
          | true =>
            simp only [Bool.and_eq_true, beq_iff_eq] at r
            exact r.1.1.2
          | false => rw [q, r] at hs; exact absurd rfl hs
        exact (ps_lock (ps_setLcX (g := exG X.K e.M e.T t.slots (bindG c t)) (tt := fun σ => exB X.K X.mg (Wat W σ) e.M e.T (evC c cc)) (te := fun σ => exE X.K X.mg (Wat W σ) e.M e.T (ev c elt)) ok.calm ok.nd (by rw [ok.N]; exact hN) hyl hsw hi (blkOk_by hb) (fun pins σ s H cl fp bg =>
          ⟨⟨fun pins s' σ H' v u Q I r ⟨e', he', h⟩ => (dg_of (blk_ok (c := c) ok.toCxOk he' bg) (raw := scope) (fun y hy => beq_cell hy) h4).run pins s' σ H' v u Q I r h⟩,
          ⟨fun pins s' σ H' Q I ⟨e', he', h⟩ => (evC_ok cc (blk_ok (c := c) (e' := e') ok.toCxOk he' bg) ifs h6).run pins s' σ H' Q I h⟩,
          ⟨fun pins s' σ H' Q I ⟨e', he', h⟩ => (ev_ok elt (blk_ok (c := c) (e' := e') ok.toCxOk he' bg) y h7).run pins s' σ H' Q I h⟩⟩) (folded_of rfl))).mono fun D σ H h => d_lcP ok.toCxOk hsl σ H _ (s_own_end ok h)
      · cases h
end
mutual
theorem ex_ok {st : Sta} {sc : Scope} {c : Cfg} {e : Ent} : ∀ (s : CS) {W : WX} {X : Cx} (ok : CxS st sc c e W X) (x : Stmt), chkS st sc s x = true → PS X x (tS X.K X.mg W e (ex c s))
  | .set i e, W, X, ok, x, h => by
    unfold chkS at h
    split at h
    · simp only [Bool.and_eq_true, decide_eq_true_eq] at h
      exact s_set ok h.1.1.1 h.1.1.2 h.1.2 (ev_ok e ok.toCxOk _ h.2)
    · cases h
  | .own i f, W, X, ok, x, h => by
    unfold chkS at h
    split at h
    · simp only [Bool.and_eq_true, decide_eq_true_eq] at h
      exact s_ownLc ok h.1.1 h.1.2 h.2
    · cases h
  | .unpack is e, W, X, ok, x, h => by
    unfold chkS at h
    split at h
    · simp only [Bool.and_eq_true] at h
      exact s_unpack ok h.1.1.1 h.1.1.2 h.1.2 (ev_ok e ok.toCxOk _ h.2)
    · cases h
  | .append i e, W, X, ok, x, h => by
    unfold chkS at h
    split at h
    · simp only [Bool.and_eq_true, decide_eq_true_eq, beq_iff_eq] at h
      obtain ⟨⟨⟨⟨⟨rfl, h1⟩, h2⟩, h3⟩, h4⟩, h5⟩ := h
      exact s_append ok (beq_iff_eq.mpr h1) h2 h3 h4 (ev_ok e ok.toCxOk _ h5)
    · cases h
  | .extE i e, W, X, ok, x, h => by
    unfold chkS at h
    split at h
    · simp only [Bool.and_eq_true, decide_eq_true_eq, beq_iff_eq] at h
      obtain ⟨⟨⟨⟨⟨rfl, h1⟩, h2⟩, h3⟩, h4⟩, h5⟩ := h
      exact s_extE ok (beq_iff_eq.mpr h1) h2 h3 h4 (ev_ok e ok.toCxOk _ h5)
    · cases h
  | .extend i f, W, X, ok, x, h => by
    unfold chkS at h
    split at h
    · simp only [Bool.and_eq_true, decide_eq_true_eq, beq_iff_eq] at h
      obtain ⟨⟨⟨⟨⟨rfl, h1⟩, h2⟩, h3⟩, h4⟩, h5⟩ := h
      exact s_extend ok (beq_iff_eq.mpr h1) h2 h3 h4 (evF_ok f ok.toCxOk _ h5)
    · cases h
  | .setI i k e, W, X, ok, x, h => by
    unfold chkS at h
    split at h
    · simp only [Bool.and_eq_true, decide_eq_true_eq] at h
      obtain ⟨⟨⟨⟨⟨h1, h2⟩, h3⟩, h4⟩, h5⟩, h6⟩ := h
      exact s_setI ok h1 h2 h3 h4 (ev_ok k ok.toCxOk _ h5) (ev_ok e ok.toCxOk _ h6)
    · cases h
  | .setD i k e, W, X, ok, x, h => by
    unfold chkS at h
    split at h
    · simp only [Bool.and_eq_true, decide_eq_true_eq] at h
      obtain ⟨⟨⟨⟨⟨h1, h2⟩, h3⟩, h4⟩, h5⟩, h6⟩ := h
      exact s_setD ok h1 h2 h3 h4 (ev_ok k ok.toCxOk _ h5) (ev_ok e ok.toCxOk _ h6)
    · cases h
  | .setF cls i f e, W, X, ok, x, h => by
    unfold chkS at h
    split at h
    · simp only [Bool.and_eq_true, decide_eq_true_eq, beq_iff_eq] at h
      obtain ⟨⟨⟨⟨⟨rfl, h1⟩, h2⟩, h3⟩, h4⟩, h5⟩ := h
      exact s_setF ok h1 h2 h3 h4 (ev_ok e ok.toCxOk _ h5)
    · cases h
  | .newO i cls f es, W, X, ok, x, h => by
    unfold chkS at h
    split at h
    · simp only [Bool.and_eq_true, decide_eq_true_eq, beq_iff_eq] at h
      obtain ⟨⟨⟨⟨⟨⟨h1, h2⟩, rfl⟩, h3⟩, h4⟩, h5⟩, h6⟩ := h
      cases es with
      | nil => simp [chks] at h6
      | cons a r =>
        have h7 := h6
        simp only [chks, Bool.and_eq_true] at h7
        exact s_own ok h1 h2 rfl (d_new ok h3 h4 h5 h7.1.1 (hpl_of h7.2) (evs_ok (.cons a r) ok.toCxOk _ h6))
    · cases h
  | .ret e, W, X, ok, x, h => by
    unfold chkS at h
    split at h
    · exact s_ret (ev_ok e ok.toCxOk _ h)
    · cases h
  | .retF f, W, X, ok, x, h => by
    unfold chkS at h
    split at h
    · exact s_retF (evF_ok f ok.toCxOk _ h)
    · cases h
  | .ret3 a b k, W, X, ok, x, h => by
    unfold chkS at h
    split at h
    · simp only [Bool.and_eq_true, decide_eq_true_eq] at h
      obtain ⟨⟨⟨⟨⟨h1, h2⟩, h3⟩, h4⟩, h5⟩, h6⟩ := h
      exact s_ret3 ok h1 h2 h3 h4 (ev_ok a ok.toCxOk _ h5) (ev_ok b ok.toCxOk _ h6)
    · cases h
  | .unp3 i j k f es, W, X, ok, x, h => by
    unfold chkS at h
    split at h
    · rename_i n1 n2 n3 kk pt g pg y ys pc ps
      simp only [Bool.and_eq_true, beq_iff_eq] at h
      obtain ⟨⟨⟨⟨⟨h1, rfl⟩, h2⟩, h3⟩, hmt⟩, h4⟩ := h
      have h3' : st.fns.lookup f = some .tr := by
        split at h3
        · assumption
        · cases h3
      cases es with
      | nil => simp [chks] at h4
      | cons a r =>
        have h5 := h4
        simp only [chks, Bool.and_eq_true] at h5
        exact s_unp3 ok h1 rfl rfl (d_callT ok.toCxOk h2 h3' hmt h5.1.1 (hpl_of h5.2) (evs_ok (.cons a r) ok.toCxOk _ h4))
    · cases h
  | .retN, W, X, ok, x, h => by
    unfold chkS at h
    split at h
    · exact s_retN
    · cases h
  | .expr e, W, X, ok, x, h => by
    unfold chkS at h
    split at h
    · rw [Bool.and_eq_true] at h
      exact s_expr h.1 (ev_ok e ok.toCxOk _ h.2)
    · cases h
  | .if_ t a b, W, X, ok, x, h => by
    unfold chkS at h
    split at h
    · simp only [Bool.and_eq_true] at h
      exact s_if (evT_ok t ok.toCxOk _ h.1.1) (exs_ok a ok _ h.1.2) (exs_ok b ok _ h.2)
    · cases h
  | .for_ t it b, W, X, ok, x, h => by
    unfold chkS at h
    split at h
    · simp only [Bool.and_eq_true] at h
      exact s_for ok h.1.1.2 (evI_ok it ok.toCxOk _ _ h.1.2) (dg_of ok.toCxOk (raw := sc) (fun y _ => ok.fn y) h.1.1.1) (exs_ok b ok _ h.2)
    · cases h
  | .while_ t b, W, X, ok, x, h => by
    unfold chkS at h
    split at h
    · rw [Bool.and_eq_true] at h
      exact s_while ok (evT_ok t ok.toCxOk _ h.1) (exs_ok b ok _ h.2)
    · cases h
  | .pass, W, X, ok, x, h => by
    unfold chkS at h
    split at h
    · exact s_pass
    · cases h
  | .stuck, W, X, ok, x, h => s_stuck
  | .raise_ cls ps es, W, X, ok, x, h => by
    unfold chkS at h
    split at h
    · simp only [Bool.and_eq_true, decide_eq_true_eq, beq_iff_eq] at h
      obtain ⟨⟨⟨rfl, h2⟩, h3⟩, h4⟩ := h
      cases es with
      | nil => simp [chks] at h4
      | cons a r =>
        have h5 := h4
        simp only [chks, Bool.and_eq_true] at h5
        exact s_raise ok h2 h3 h5.1.1 (hpl_of h5.2) (evs_ok (.cons a r) ok.toCxOk _ h4)
    · cases h
  | .try_ cls n b r, W, X, ok, x, h => by
    unfold chkS at h
    split at h
    · simp only [Bool.and_eq_true, beq_iff_eq] at h
      obtain ⟨⟨⟨⟨⟨rfl, h2⟩, h3⟩, h4⟩, h5⟩, h6⟩ := h
      exact s_try ok h2 h3 h4 h5 fun W' pn xe ok' => exs_ok b ok' _ h6
    · cases h
  | .tryI cls n b vs ws, W, X, ok, x, h => by
    unfold chkS at h
    split at h
    · simp only [Bool.and_eq_true, beq_iff_eq] at h
      obtain ⟨⟨⟨⟨⟨⟨rfl, h2⟩, h3⟩, h4⟩, h5⟩, h6⟩, h7⟩ := h
      exact s_tryI ok h2 h3 h4 h5 h6 fun W' pn xe ok' => exs_ok b ok' _ h7
    · cases h
  | .tryB base cls n b vs, W, X, ok, x, h => by
    unfold chkS at h
    split at h
    · simp only [Bool.and_eq_true, beq_iff_eq] at h
      obtain ⟨⟨⟨⟨⟨⟨⟨⟨⟨⟨⟨⟨rfl, rfl⟩, rfl⟩, rfl⟩, h2⟩, h3⟩, h4⟩, h5⟩, h6⟩, h7⟩, h8⟩, h9⟩, h10⟩ := h
      exact s_tryB ok h2 h3 h4 h5 h6 (by simpa using h7) h8 h9 fun W' pn xe ok' => exs_ok b ok' _ h10
    · cases h
  | .brk, W, X, ok, x, h => by
    unfold chkS at h
    split at h
    · exact s_brk
    · cases h
  | .cont, W, X, ok, x, h => by
    unfold chkS at h
    split at h
    · exact s_cont
    · cases h
theorem exs_ok {st : Sta} {sc : Scope} {c : Cfg} {e : Ent} : ∀ (s : CSs) {W : WX} {X : Cx} (ok : CxS st sc c e W X) (xs : List Stmt), chkSs st sc s xs = true → PSs X xs (tS X.K X.mg W e (exs c s))
  | .nil, W, X, ok, xs, h => by
    cases xs with
    | nil => exact s_nil
    | cons y ys => simp [chkSs] at h
  | .cons a r, W, X, ok, xs, h => by
    cases xs with
    | nil => simp [chkSs] at h
    | cons y ys =>
      simp only [chkSs, Bool.and_eq_true] at h
      exact s_cons (ex_ok a ok _ h.1) (exs_ok r ok _ h.2)
end
end Dv

namespace Dv
open PySem PySem.Spec L2

/-! ### a program: defs by name -/
structure Def where
  f : Str
  ps : List Str
  N : List Str
  kd : Kd
  body : CSs
  gx : Bool := false
  lam : Bool := false
  nm : Str := f
  qn : Str := f
  at_ : Option (Str × Str) := none
def Kd.isIo : Kd → Bool
  | .io => true
  | _ => false
def finR (kd : Kd) (d : D) (S : Sto) : FR := match kd with
  | .pl => .ok d none
  | .fr => .bad
  | .tr => .bad
  | .io => match S[(0 : Nat)]? with
    | some (.own o) => .ok d (some o)
    | _ => .bad
def begS (n : Nat) (oi : Option Ow) (ds : List D) : Sto := (match oi with | some o => [Sl.own o] | none => []) ++ ds.map .fro ++ List.replicate (n - ((match oi with | some _ => 1 | none => 0) + ds.length)) .no
def fitR (d : Def) (oi : Option Ow) (ds : List D) : Bool := match oi with
  | some _ => d.kd.isIo && ds.length + 1 == d.ps.length
  | none => !d.kd.isIo && ds.length == d.ps.length
def endR (kd : Kd) : Fl → FR
  | .nx S => finR kd .none S
  | .rt v S => finR kd v S
  | .rtF o _ => if kd = .fr then .okF o else .bad
  | .rtT a b o _ => if kd = .tr then .okT a b o else .bad
  | .exc x _ => .exc x
  | _ => .bad
def runBody (c : Cfg) (d : Def) (oi : Option Ow) (ds : List D) : FR := if fitR d oi ds then endR d.kd (exs c d.body (begS d.N.length oi ds)) else .bad
def lookupDef : List Def → Str → Option Def
  | [], _ => none
  | d :: T, f => if f == d.f then some d else lookupDef T f
def runs (con : Str → Option D) (T : List Def) : Nat → List RunF
  | 0 => []
  | n + 1 => (fun f oi ds => match lookupDef T f with
      | some d => runBody { run := runs con T n, con := con, io := d.kd.isIo } d oi ds
      | none => .bad) :: runs con T n
def fnsOf (T : List Def) : List (Str × Kd) := T.map fun d => (d.f, d.kd)
/-- which defs are methods: of which class, by which name -/
def mtsOf : List Def → List (Str × (Str × Str))
  | [] => []
  | d :: T => match d.at_ with
    | some p => (d.f, p) :: mtsOf T
    | none => mtsOf T
theorem runs_len (con : Str → Option D) (T : List Def) : ∀ n, (runs con T n).length = n
  | 0 => rfl
  | n + 1 => by simp [runs, runs_len con T n]

/-- what is read off the text -/
structure DS (bl : List Str) (xl : List (Str × List Str)) (fns : List (Str × Kd)) (mts : List (Str × (Str × Str))) (kl : List (Str × List Str)) (d : Def) (stm : Stmt) : Prop where
  sc : FnScope d.N d.ps (defScope stm)
  ck : chkSs ⟨d.N, bl, fns, d.gx, d.lam, xl, mts, kl⟩ (defScope stm) d.body (defBody stm) = true
  bd : ∀ (kV doc pm : Value) (an : Option Addr) (cdv ct : Value) (us : List Value), us.length = d.ps.length → bindArgs (PySem.W.fnOf d.nm d.qn (defArgs stm) (defBody stm) (defScope stm) .none kV doc pm an cdv ct) ⟨us, []⟩ = pure (d.ps.zip us)
/-- where a def's object is found: a name of the module, or a method of a class -/
def Stand (K : PySem.W.Frag) (f : Str) (fa : Addr) : Option (Str × Str) → Prop
  | none => PySem.W.nsIn K mainGlobals f = some (some (.ref fa))
  | some (cls, m) => ∃ C, PySem.W.nsIn K mainGlobals cls = some (some (.ref C)) ∧ Cls K C ∧ Meth K C m fa ∧ (m = "__init__" → Mk K C fa)
/-- where it stands; cs: the code objects of defs that make further ones, with their tables -/
structure DF (K : PySem.W.Frag) (cs : List (Addr × Addr)) (lq : List (Addr × Str)) (d : Def) (stm : Stmt) : Prop where
  ex : ∃ (fa : Addr) (oc : Value) (od : Option Addr) (kV doc pm : Value) (an : Option Addr) (cdv ct : Value) (osl : Array (Option Value)), Stand K d.f fa d.at_ ∧
    K.lookup fa = some ⟨oc, od, .func (PySem.W.fnOf d.nm d.qn (defArgs stm) (defBody stm) (defScope stm) .none kV doc pm an cdv ct), osl⟩ ∧ PySem.W.codeIn K cdv d.qn = true ∧ PySem.W.keepIn K (.ref fa) = true ∧
    (d.gx = true → ∃ c P, cdv = .ref c ∧ (c, P) ∈ cs ∧ lq.lookup P = (if d.lam then some ((d.qn ++ ".<locals>.") ++ "<lambda>") else none))
section
variable {K : PySem.W.Frag} {cs : List (Addr × Addr)} {lq : List (Addr × Str)} {d : Def} {stm : Stmt} {fa C : Addr} {oc : Value} {od : Option Addr} {kV doc pm : Value} {an : Option Addr} {cdv ct : Value} {osl : Array (Option Value)}
theorem DF.mk' (ga : d.gx = false) (aa : d.at_ = none) (a : PySem.W.nsIn K mainGlobals d.f = some (some (.ref fa)))
    (l : K.lookup fa = some ⟨oc, od, .func (PySem.W.fnOf d.nm d.qn (defArgs stm) (defBody stm) (defScope stm) .none kV doc pm an cdv ct), osl⟩) (c : PySem.W.codeIn K cdv d.qn = true) (k : PySem.W.keepIn K (.ref fa) = true) : DF K cs lq d stm :=
  ⟨fa, oc, od, kV, doc, pm, an, cdv, ct, osl, by rw [aa]; exact a, l, c, k, fun h => by rw [ga] at h; cases h⟩
theorem DF.mkM {cls m : Str} (ga : d.gx = false) (aa : d.at_ = some (cls, m)) (a : PySem.W.nsIn K mainGlobals cls = some (some (.ref C))) (hC : Cls K C) (hM : Meth K C m fa) (hI : m = "__init__" → Mk K C fa)
    (l : K.lookup fa = some ⟨oc, od, .func (PySem.W.fnOf d.nm d.qn (defArgs stm) (defBody stm) (defScope stm) .none kV doc pm an cdv ct), osl⟩) (c : PySem.W.codeIn K cdv d.qn = true) (k : PySem.W.keepIn K (.ref fa) = true) : DF K cs lq d stm :=
  ⟨fa, oc, od, kV, doc, pm, an, cdv, ct, osl, by rw [aa]; exact ⟨C, a, hC, hM, hI⟩, l, c, k, fun h => by rw [ga] at h; cases h⟩
theorem DF.mkT {cd P : Addr} (aa : d.at_ = none) (a : PySem.W.nsIn K mainGlobals d.f = some (some (.ref fa)))
    (l : K.lookup fa = some ⟨oc, od, .func (PySem.W.fnOf d.nm d.qn (defArgs stm) (defBody stm) (defScope stm) .none kV doc pm an (.ref cd) ct), osl⟩) (c : PySem.W.codeIn K (.ref cd) d.qn = true) (k : PySem.W.keepIn K (.ref fa) = true) (m : (cd, P) ∈ cs) (hq : lq.lookup P = (if d.lam then some ((d.qn ++ ".<locals>.") ++ "<lambda>") else none)) : DF K cs lq d stm :=
  ⟨fa, oc, od, kV, doc, pm, an, .ref cd, ct, osl, by rw [aa]; exact a, l, c, k, fun _ => ⟨cd, P, rfl, m, hq⟩⟩
end
inductive AllP {α : Type} (p : α → Prop) : List α → Prop
  | nil : AllP p []
  | cons {a : α} {l : List α} : p a → AllP p l → AllP p (a :: l)
theorem AllP.mem {α : Type} {p : α → Prop} : ∀ {l : List α} {a : α}, AllP p l → a ∈ l → p a
  | _, _, .cons h t, m => by
    rcases List.mem_cons.mp m with e | m
    · rw [e]; exact h
    · exact t.mem m
theorem lookup_def : ∀ {T : List Def} {f : Str} {io : Kd}, (fnsOf T).lookup f = some io → ∃ d, lookupDef T f = some d ∧ d ∈ T ∧ d.f = f ∧ d.kd = io
  | [], _, _, h => by cases h
  | d :: T, f, io, h => by
    unfold fnsOf at h
    rw [List.map_cons, List.lookup_cons] at h
    unfold lookupDef
    cases q : f == d.f with
    | true =>
      rw [q] at h
      refine ⟨d, by simp, List.mem_cons_self, (beq_iff_eq.mp q).symm, by simpa using h⟩
    | false =>
      rw [q] at h
      obtain ⟨d', h1, h2, h3, h4⟩ := lookup_def (T := T) h
      exact ⟨d', by simpa using h1, List.mem_cons_of_mem _ h2, h3, h4⟩
/-- defs of one name stand in one place -/
def OneName (T : List Def) : Prop := ∀ d ∈ T, ∀ d' ∈ T, d.f = d'.f → d.at_ = d'.at_
def oneName (T : List Def) : Bool := T.all fun d => T.all fun d' => !(d.f == d'.f) || d.at_ == d'.at_
theorem oneName_of {T : List Def} (h : oneName T = true) : OneName T := fun d hd d' hd' e => by
  have h1 := List.all_eq_true.mp (List.all_eq_true.mp h d hd) d' hd'
  rw [e] at h1
  simpa using h1
/-- a def is found by its name alone -/
theorem mts_of : ∀ {T : List Def} {f : Str} {d : Def}, lookupDef T f = some d → (∀ d' ∈ T, d'.f = f → d'.at_ = d.at_) → (mtsOf T).lookup f = d.at_
  | [], _, _, h, _ => by cases h
  | d0 :: T, f, d, h, u => by
    unfold lookupDef at h
    cases q : f == d0.f with
    | true =>
      rw [if_pos q] at h
      obtain rfl : d0 = d := Option.some.inj h
      have e := beq_iff_eq.mp q
      cases qa : d0.at_ with
      | some p => show (match d0.at_ with | some p => (d0.f, p) :: mtsOf T | none => mtsOf T).lookup f = some p; rw [qa]; show ((d0.f, p) :: mtsOf T).lookup f = some p; rw [List.lookup_cons, q]
      | none =>
        show (match d0.at_ with | some p => (d0.f, p) :: mtsOf T | none => mtsOf T).lookup f = none
        rw [qa]
        show (mtsOf T).lookup f = none
        exact go fun d' hd' e' => by rw [u d' (List.mem_cons_of_mem _ hd') e', qa]
    | false =>
      rw [if_neg (by simp [q])] at h
      have ih := mts_of h fun d' hd' e' => u d' (List.mem_cons_of_mem _ hd') e'
      show (match d0.at_ with | some p => (d0.f, p) :: mtsOf T | none => mtsOf T).lookup f = _
      cases d0.at_ with
      | some p => show ((d0.f, p) :: mtsOf T).lookup f = _; rw [List.lookup_cons, q]; exact ih
      | none => exact ih
where
  go : ∀ {T : List Def} {f : Str}, (∀ d' ∈ T, d'.f = f → d'.at_ = none) → (mtsOf T).lookup f = none
    | [], _, _ => rfl
    | d0 :: T, f, u => by
      have ih := go (T := T) (f := f) fun d' hd' e' => u d' (List.mem_cons_of_mem _ hd') e'
      show (match d0.at_ with | some p => (d0.f, p) :: mtsOf T | none => mtsOf T).lookup f = none
      cases qa : d0.at_ with
      | none => exact ih
      | some p =>
        show ((d0.f, p) :: mtsOf T).lookup f = none
        rw [List.lookup_cons]
        cases q : f == d0.f with
        | false => exact ih
        | true => have := u d0 List.mem_cons_self (beq_iff_eq.mp q).symm; rw [qa] at this; cases this
section
variable {P : Program} {w : World} {K : PySem.W.Frag} {mg : Str → Option Value} {base : Heap}
theorem stand_at {h₀ : Heap} (KX : K.In h₀) (G : h₀.Ns mainGlobals mg) {mts : List (Str × (Str × Str))} {f : Str} {fa : Addr} {o : Option (Str × Str)} (e : mts.lookup f = o) (k : PySem.W.keepIn K (.ref fa) = true) (s : Stand K f fa o) : FAt K mg mts f fa := by
  unfold FAt
  rw [e]
  cases o with
  | none => exact ⟨PySem.W.mg_of KX G s, k⟩
  | some p =>
    obtain ⟨C, h1, h2, h3, h4⟩ := s
    exact ⟨C, PySem.W.mg_of KX G h1, h2, h3, h4⟩
theorem SR.chgOf {e : Ent} {Z : Zn} {H : Hp} {σ : L2.St} {S : Sto} (s : SR K e Z H σ S) : Chg e.T e.M e.Z e.H Z H where
  z := s.st.z
  n := s.ze
  h := s.kp
  i := s.zi
  t := fun a h q => h (s.new q)
  m := fun a m => (s.mi a m).2.1
  tz := fun a t => (s.te a t).2.2.2
  tg := s.tb
theorem beg_fro {Z : Zn} {T : Tz} {H : Hp} {vs : List V} {ds : List D} (zi : ∀ a, Z a → H a ≠ none) (ti : ∀ a, T a → TabG T H a ∧ ¬ Z a) (rs : Rs K Z H vs ds) (n : Nat) : SR K ⟨Z, H, fun _ => False, fun _ => none, T⟩ Z H (vs.map some ++ List.replicate (n - vs.length) none) (ds.map .fro ++ List.replicate (n - ds.length) .no) where
  ln := by simp [rs.length]
  fro := fun i d h => by
    have hl := rs.length
    by_cases hi : i < ds.length
    · rw [List.getElem?_append_left (by simpa using hi), List.getElem?_map] at h
      rw [List.getElem?_append_left (by simp; omega), List.getElem?_map]
      cases q : ds[i]? with
      | none => rw [q] at h; cases h
      | some d' =>
        rw [q] at h
        cases h
        obtain ⟨v, h1, h2⟩ := Pd.get rs q
        exact ⟨v, by rw [h1]; rfl, h2⟩
    · rw [List.getElem?_append_right (by simp; omega), List.getElem?_replicate] at h
      split at h <;> cases h
  own := fun i o h => by
    exfalso
    by_cases hi : i < ds.length
    · rw [List.getElem?_append_left (by simpa using hi), List.getElem?_map] at h
      cases q : ds[i]? with
      | none => rw [q] at h; cases h
      | some d' => rw [q] at h; cases h
    · rw [List.getElem?_append_right (by simp; omega), List.getElem?_replicate] at h
      split at h <;> cases h
  sep := fun i j o o' a h _ _ _ => by
    exfalso
    by_cases hi : i < ds.length
    · rw [List.getElem?_append_left (by simpa using hi), List.getElem?_map] at h
      cases q : ds[i]? with
      | none => rw [q] at h; cases h
      | some d' => rw [q] at h; cases h
    · rw [List.getElem?_append_right (by simp; omega), List.getElem?_replicate] at h
      split at h <;> cases h
  zi := zi
  ze := fun a h => .inl h
  st := .refl
  kp := fun a o h _ _ => h
  mi := fun a m => m.elim
  pn := fun a o h => by cases h
  te := fun a t => ⟨(ti a t).1.there, fun h => h, rfl, (ti a t).2⟩
  tb := fun a t => (ti a t).1
theorem beg_own {Z : Zn} {T : Tz} {H : Hp} {a : Addr} {o : Ow} {vs : List V} {ds : List D} (zi : ∀ a, Z a → H a ≠ none) (ti : ∀ a, T a → TabG T H a ∧ ¬ Z a) (nt : ¬ T a) (nz : ¬ Z a) (ow : OwnAt K T Z H a o) (rs : Rs K Z H vs ds) (n : Nat) :
    SR K ⟨Z, H, fun b => b = a, fun _ => none, T⟩ Z H ((V.ref a :: vs).map some ++ List.replicate (n - (V.ref a :: vs).length) none) ([Sl.own o] ++ ds.map .fro ++ List.replicate (n - (1 + ds.length)) .no) := by
  have hl := rs.length
  have at0 : ([Sl.own o] ++ ds.map .fro ++ List.replicate (n - (1 + ds.length)) .no)[0]? = some (.own o) := rfl
  have s0 : ((V.ref a :: vs).map some ++ List.replicate (n - (V.ref a :: vs).length) none)[0]? = some (some (V.ref a)) := rfl
  have atS : ∀ (i : Nat) (o' : Ow), ([Sl.own o] ++ ds.map .fro ++ List.replicate (n - (1 + ds.length)) .no)[i]? = some (.own o') → i = 0 ∧ o' = o := fun i o' h => by
    cases i with
    | zero => rw [at0] at h; cases h; exact ⟨rfl, rfl⟩
    | succ i =>
      exfalso
      have h : (ds.map Sl.fro ++ List.replicate (n - (1 + ds.length)) .no)[i]? = some (.own o') := h
      by_cases hi : i < ds.length
      · rw [List.getElem?_append_left (by simpa using hi), List.getElem?_map] at h
        cases q : ds[i]? with
        | none => rw [q] at h; cases h
        | some d' => rw [q] at h; cases h
      · rw [List.getElem?_append_right (by simp; omega), List.getElem?_replicate] at h
        split at h <;> cases h
  refine ⟨by simp [hl]; omega, fun i d h => ?_, fun i o' h => ?_, fun i j o1 o2 b h1 h2 _ _ => ?_, zi, fun a h => .inl h, .refl, fun a o h _ _ => h, fun b m => ?_, fun b o h => (by cases h), fun b t => ⟨(ti b t).1.there, fun q => nt (by have q : b = a := q; rw [← q]; exact t), rfl, (ti b t).2⟩, fun b t => (ti b t).1⟩
  · cases i with
    | zero => rw [at0] at h; cases h
    | succ i =>
      have h : (ds.map Sl.fro ++ List.replicate (n - (1 + ds.length)) .no)[i]? = some (.fro d) := h
      by_cases hi : i < ds.length
      · rw [List.getElem?_append_left (by simpa using hi), List.getElem?_map] at h
        cases q : ds[i]? with
        | none => rw [q] at h; cases h
        | some d' =>
          rw [q] at h
          cases h
          obtain ⟨v, h1, h2⟩ := Pd.get rs q
          refine ⟨v, ?_, h2⟩
          show (vs.map some ++ List.replicate (n - (V.ref a :: vs).length) none)[i]? = some (some v)
          rw [List.getElem?_append_left (by simp; omega), List.getElem?_map, h1]
          rfl
      · rw [List.getElem?_append_right (by simp; omega), List.getElem?_replicate] at h
        split at h <;> cases h
  · obtain ⟨rfl, rfl⟩ := atS i o' h
    exact ⟨a, s0, nz, ow, .inr ⟨rfl, rfl⟩⟩
  · rw [(atS i o1 h1).1, (atS j o2 h2).1]
  · have m : b = a := m
    subst m
    exact ⟨ow.there, nz, ow.there, s0⟩
/-- the def's promise, by its body's meaning -/
theorem def_ok {con : Str → Option D} {Tl : List Def} {T : Tz} {bl : List Str} {xl : List (Str × List Str)} {kl : List (Str × List Str)} {d : Def} {stm : Stmt} {n : Nat} (hcm : T.cm = mg) (hcw : T.w = w) (S : DS bl xl (fnsOf Tl) (mtsOf Tl) kl d stm) {fa : Addr} {oc : Value} {od : Option Addr} {kV doc pm : Value} {an : Option Addr} {cdv ct : Value} {osl : Array (Option Value)}
    (lk : K.lookup fa = some ⟨oc, od, .func (PySem.W.fnOf d.nm d.qn (defArgs stm) (defBody stm) (defScope stm) .none kV doc pm an cdv ct), osl⟩) (hcd : PySem.W.codeIn K cdv d.qn = true) (hgx : d.gx = true → ∃ c Pt, cdv = .ref c ∧ GxR.TabB base mg c Pt ∧ T Pt ∧ T.q Pt = (if d.lam then some ((d.qn ++ ".<locals>.") ++ "<lambda>") else none))
    (hfns : FnsOk P w K T mg base (mtsOf Tl) (fnsOf Tl) (runs con Tl n)) (hbl : ∀ x, bl.contains x = true → mg x = none) (hxl : ∀ cls ps, xl.lookup cls = some ps → XcOk P K mg cls ps) (hkl : ∀ cls fl, kl.lookup cls = some fl → ClOk K mg cls fl) (hcon : ∀ x d, con x = some d → ∃ u v, mg x = some u ∧ RelV v u ∧ ∀ Z H, R K Z H v d) :
    FnOk P w K mg base (L2.CX P w) (2 * (n + 1)) fa (PySem.W.fnOf d.nm d.qn (defArgs stm) (defBody stm) (defScope stm) .none kV doc pm an cdv ct) d.ps (spD K T mg d.kd d.ps.length (runBody { run := runs con Tl n, con := con, io := d.kd.isIo } d)) := by
  refine fn_of (k := 2 * n + 1) lk hcd S.sc (fun vs H Q E h => h.1) fun A outer s H vs Q E hr h => ?_
  have hlen := runs_len con Tl n
  -- the context
  have ctx : ∀ (e : Ent), e.T = T → (d.kd.isIo = false → ∀ a, ¬ e.M a) → CxS ⟨d.N, bl, fnsOf Tl, d.gx, d.lam, xl, mtsOf Tl, kl⟩ (defScope stm) { run := runs con Tl n, con := con, io := d.kd.isIo } e (fun cls dd _ H => E cls dd H) (cxOf (L2.CX P w) P w K mg base d.N d.qn (defScope stm) fa cdv A outer s H E) := fun e het hio =>
    { calm := rfl, nd := S.sc.nd, N := rfl, sc := rfl, room := by show Room (2 * (runs con Tl n).length) _; rw [hlen]; exact hr.mono (Nat.le_succ _), tab := fun hg => by
        obtain ⟨c, Pt, e1, e2, e3, e4⟩ := hgx hg
        exact ⟨by show Room (2 * (runs con Tl n).length + 1) _; rw [hlen]; exact hr, c, Pt, e1, e2, by rw [het]; exact e3, by rw [het]; exact e4⟩, fns := by rw [het]; exact hfns, cmg := by rw [het]; exact hcm, cw := by rw [het]; exact hcw, cl := hkl, rm1 := by show Room (2 * (runs con Tl n).length + 1) _; rw [hlen]; exact hr, bl := hbl, con := hcon, io := hio, lx := .inr ⟨_, LX.of (takes_of rfl rfl rfl rfl) rfl rfl⟩, tk := takes_of rfl rfl rfl rfl, hs := rfl, hf := rfl, xs := hxl, po := passes_of rfl, fn := fun _ => rfl }
  obtain ⟨hn, Z, zi, ti, h⟩ := h
  have eb0 : ∀ ds : List D, begS d.N.length none ds = ds.map .fro ++ List.replicate (d.N.length - ds.length) .no := fun ds => by
    unfold begS
    simp
  cases hio : d.kd with
  | pl =>
    rw [hio] at h
    obtain ⟨ds, rs, h⟩ := h
    have cx := ctx ⟨Z, H, fun _ => False, fun _ => none, T⟩ rfl fun _ _ m => m
    rw [hio] at cx
    refine ⟨_, exs_ok d.body cx (defBody stm) S.ck, Z, _, beg_fro zi ti rs d.N.length, ?_⟩
    unfold runBody at h
    by_cases hfit : fitR d none ds = true
    case neg => rw [if_neg hfit] at h; exact h.elim
    rw [if_pos hfit, eb0, hio] at h
    cases q : exs { run := runs con Tl n, con := con, io := Kd.pl.isIo } d.body (ds.map .fro ++ List.replicate (d.N.length - ds.length) .no) with
    | nx S' => rw [q] at h; exact fun σ' Z' H' st' sr => h V.non Z' H' sr.chgOf .non
    | rt v S' => rw [q] at h; exact fun u σ' Z' H' st' sr rv => h u Z' H' sr.chgOf rv
    | rtF o S' => rw [q] at h; exact h.elim
    | rtT _ _ _ _ => rw [q] at h; exact h.elim
    | exc x S' => rw [q] at h; exact fun cls dd σ' Z' H' st' sr rx => h cls dd Z' H' sr.chgOf rx
    | bk S' => rw [q] at h; exact h.elim
    | ct S' => rw [q] at h; exact h.elim
    | bad => rw [q] at h; exact h.elim
  | fr =>
    rw [hio] at h
    obtain ⟨ds, rs, h⟩ := h
    have cx := ctx ⟨Z, H, fun _ => False, fun _ => none, T⟩ rfl fun _ _ m => m
    rw [hio] at cx
    refine ⟨_, exs_ok d.body cx (defBody stm) S.ck, Z, _, beg_fro zi ti rs d.N.length, ?_⟩
    unfold runBody at h
    by_cases hfit : fitR d none ds = true
    case neg => rw [if_neg hfit] at h; exact h.elim
    rw [if_pos hfit, eb0, hio] at h
    cases q : exs { run := runs con Tl n, con := con, io := Kd.fr.isIo } d.body (ds.map .fro ++ List.replicate (d.N.length - ds.length) .no) with
    | nx S' => rw [q] at h; exact h.elim
    | rt v S' => rw [q] at h; exact h.elim
    | rtF o S' =>
      rw [q] at h
      intro u σ' Z' H' st' sr rv
      obtain ⟨p, rfl, nz, ow, eh, _, _⟩ := rv
      exact h p Z' H' sr.chgOf nz ow eh
    | rtT _ _ _ _ => rw [q] at h; exact h.elim
    | exc x S' => rw [q] at h; exact fun cls dd σ' Z' H' st' sr rx => h cls dd Z' H' sr.chgOf rx
    | bk S' => rw [q] at h; exact h.elim
    | ct S' => rw [q] at h; exact h.elim
    | bad => rw [q] at h; exact h.elim
  | tr =>
    rw [hio] at h
    obtain ⟨ds, rs, h⟩ := h
    have cx := ctx ⟨Z, H, fun _ => False, fun _ => none, T⟩ rfl fun _ _ m => m
    rw [hio] at cx
    refine ⟨_, exs_ok d.body cx (defBody stm) S.ck, Z, _, beg_fro zi ti rs d.N.length, ?_⟩
    unfold runBody at h
    by_cases hfit : fitR d none ds = true
    case neg => rw [if_neg hfit] at h; exact h.elim
    rw [if_pos hfit, eb0, hio] at h
    cases q : exs { run := runs con Tl n, con := con, io := Kd.tr.isIo } d.body (ds.map .fro ++ List.replicate (d.N.length - ds.length) .no) with
    | nx S' => rw [q] at h; exact h.elim
    | rt v S' => rw [q] at h; exact h.elim
    | rtF o S' => rw [q] at h; exact h.elim
    | rtT a b o S' => rw [q] at h; exact fun v p q' u1 u2 σ' Z' H' st' sr rv => h v p q' u1 u2 Z' H' sr.chgOf rv
    | exc x S' => rw [q] at h; exact fun cls dd σ' Z' H' st' sr rx => h cls dd Z' H' sr.chgOf rx
    | bk S' => rw [q] at h; exact h.elim
    | ct S' => rw [q] at h; exact h.elim
    | bad => rw [q] at h; exact h.elim
  | io =>
    rw [hio] at h
    obtain ⟨a, vs', o, ds, rfl, nz, nt, ow, rs, h⟩ := h
    have cx := ctx ⟨Z, H, fun b => b = a, fun _ => none, T⟩ rfl fun z => by rw [hio] at z; cases z
    rw [hio] at cx
    refine ⟨_, exs_ok d.body cx (defBody stm) S.ck, Z, _, beg_own zi ti nt nz ow rs d.N.length, ?_⟩
    unfold runBody at h
    by_cases hfit : fitR d (some o) ds = true
    case neg => rw [if_neg hfit] at h; exact h.elim
    rw [if_pos hfit] at h
    have eb : begS d.N.length (some o) ds = [Sl.own o] ++ ds.map .fro ++ List.replicate (d.N.length - (1 + ds.length)) .no := rfl
    rw [eb, hio] at h
    have fin : ∀ {v : D} {S' : Sto} {u : V} {σ' : L2.St} {Z' : Zn} {H' : Hp}, SR K ⟨Z, H, fun b => b = a, fun _ => none, T⟩ Z' H' σ' S' → R K Z' H' u v → (match finR .io v S' with
        | .ok d (some o') => ∀ v Z' H', Chg T (fun b => b = a) Z H Z' H' → R K Z' H' v d → OwnAt K T Z' H' a o' → Q v H'
        | .exc x => ∀ cls dd Z' H', Chg T (fun b => b = a) Z H Z' H' → RX K mg Z' H' cls dd x → E cls dd H'
        | _ => False) → Q u H' := fun {v S' u σ' Z' H'} sr rv hh => by
      unfold finR at hh
      dsimp only at hh
      cases q : S'[0]? with
      | none => rw [q] at hh; exact hh.elim
      | some sl =>
        cases sl with
        | no => rw [q] at hh; exact hh.elim
        | fro _ => rw [q] at hh; exact hh.elim
        | own o' =>
          rw [q] at hh
          obtain ⟨a', h1, _, h3, _⟩ := sr.own 0 o' q
          have h4 := (sr.mi a rfl).2.2.2
          rw [h1] at h4
          cases h4
          exact hh u Z' H' sr.chgOf rv h3
    cases q : exs { run := runs con Tl n, con := con, io := Kd.io.isIo } d.body ([Sl.own o] ++ ds.map .fro ++ List.replicate (d.N.length - (1 + ds.length)) .no) with
    | nx S' => rw [q] at h; exact fun σ' Z' H' st' sr => fin sr .non h
    | rt v S' => rw [q] at h; exact fun u σ' Z' H' st' sr rv => fin sr rv h
    | rtF o S' => rw [q] at h; exact h.elim
    | rtT _ _ _ _ => rw [q] at h; exact h.elim
    | exc x S' => rw [q] at h; exact fun cls dd σ' Z' H' st' sr rx => h cls dd Z' H' sr.chgOf rx
    | bk S' => rw [q] at h; exact h.elim
    | ct S' => rw [q] at h; exact h.elim
    | bad => rw [q] at h; exact h.elim
/-- the tables -/
def tabsZ (cs : List (Addr × Addr)) : Zn := fun a => a ∈ cs.map (·.2)
def tabsT (cs : List (Addr × Addr)) (lq : List (Addr × Str)) (cm : Str → Option Value) (w : World) : Tz := ⟨tabsZ cs, fun P => lq.lookup P, cm, w⟩
theorem gx_of {cs : List (Addr × Addr)} {lq : List (Addr × Str)} {gx : Bool} {cdv : Value} {o : Option Str} (hT : ∀ p ∈ cs, GxR.TabB base mg p.1 p.2) (h : gx = true → ∃ c P, cdv = .ref c ∧ (c, P) ∈ cs ∧ lq.lookup P = o) : gx = true → ∃ c P, cdv = .ref c ∧ GxR.TabB base mg c P ∧ tabsT cs lq mg w P ∧ (tabsT cs lq mg w).q P = o := fun hg => by
  obtain ⟨c, P, e, m, k⟩ := h hg
  exact ⟨c, P, e, hT _ m, List.mem_map_of_mem m, k⟩
theorem fns_ok {con : Str → Option D} {cs : List (Addr × Addr)} {lq : List (Addr × Str)} {L : List (Def × Stmt)} {bl : List Str} {xl : List (Str × List Str)} {kl : List (Str × List Str)} (un : OneName (L.map (·.1))) (hS : AllP (fun p => DS bl xl (fnsOf (L.map (·.1))) (mtsOf (L.map (·.1))) kl p.1 p.2) L) {h₀ : Heap} (KX : K.In h₀) (G : h₀.Ns mainGlobals mg) (hF : AllP (fun p => DF K cs lq p.1 p.2) L) (hT : ∀ p ∈ cs, GxR.TabB base mg p.1 p.2)
    (hbl : ∀ x, bl.contains x = true → mg x = none) (hxl : ∀ cls ps, xl.lookup cls = some ps → XcOk P K mg cls ps) (hkl : ∀ cls fl, kl.lookup cls = some fl → ClOk K mg cls fl) (hcon : ∀ x d, con x = some d → ∃ u v, mg x = some u ∧ RelV v u ∧ ∀ Z H, R K Z H v d) : ∀ n, FnsOk P w K (tabsT cs lq mg w) mg base (mtsOf (L.map (·.1))) (fnsOf (L.map (·.1))) (runs con (L.map (·.1)) n)
  | 0 => trivial
  | n + 1 => by
    have ih := fns_ok un hS KX G hF hT hbl hxl hkl hcon n
    refine ⟨fun f io hf => ?_, ih⟩
    obtain ⟨d, h1, h2, rfl, rfl⟩ := lookup_def hf
    obtain ⟨p, hp, rfl⟩ := List.mem_map.mp h2
    have S := hS.mem hp
    obtain ⟨fa, oc, od, kV, doc, pm, an, cdv, ct, osl, a, l, c, k, gx⟩ := (hF.mem hp).ex
    have F := fun_mk (st := p.2) l c k
    refine ⟨fa, _, p.1.ps, stand_at KX G (mts_of h1 fun d' hd' e => un d' hd' p.1 h2 e) k a, F.binds S.bd, ?_, fun oi ds nb => ?_⟩
    · rw [runs_len]
      have := def_ok (w := w) (P := P) (mg := mg) (base := base) (n := n) rfl rfl S l c (gx_of hT gx) ih hbl hxl hkl hcon
      simpa [h1] using this
    · rw [h1] at nb
      have nb : runBody { run := runs con (L.map (·.1)) n, con := con, io := p.1.kd.isIo } p.1 oi ds ≠ .bad := nb
      unfold runBody at nb
      split at nb
      · rename_i hfit
        unfold fitR at hfit
        cases oi with
        | none => simp only [Bool.and_eq_true, beq_iff_eq] at hfit; exact hfit.2
        | some o => simp only [Bool.and_eq_true, beq_iff_eq] at hfit; exact hfit.2
      · exact absurd rfl nb
end
end Dv

namespace Dv
open PySem PySem.Spec L2
/-- the law's own promise -/
def spL (K : PySem.W.Frag) (T : Zn) : Sp := fun vs H Q _ => ∃ (a : Addr) (ns : List Int), vs = [V.ref a] ∧ LE K H a (ns.map V.int) ∧ ns.length ≤ 63 ∧ (∀ t, T t → H t = some (.tbl #[])) ∧ ∀ v H', v = V.bl true → Q v H'
theorem no_exc {P : Program} {w : World} (H : Hp) (s : Shared) (v : Value) (s' : Shared) (h : L2.CX P w [] H s (fun _ _ _ => False) v s') : False :=
  let ⟨_, _, _, _, _, _, _, _, _, _, _, _, z⟩ := h
  z.elim
/-- constants of the module -/
structure CK (K : PySem.W.Frag) (p : Str × D) : Prop where
  ex : ∃ u v, PySem.W.nsIn K mainGlobals p.1 = some (some u) ∧ RelV v u ∧ ∀ Z H, R K Z H v p.2
theorem CK.int {K : PySem.W.Frag} {x : Str} {i : Int} {t : Tok} (h : PySem.W.nsIn K mainGlobals x = some (some (.int i t))) : CK K (x, .int i) := ⟨_, .int i, h, ⟨t, rfl⟩, fun _ _ => .int i⟩
theorem CK.str {K : PySem.W.Frag} {x y : Str} {t : Tok} (h : PySem.W.nsIn K mainGlobals x = some (some (.str y t))) : CK K (x, .str y) := ⟨_, .str y, h, ⟨t, rfl⟩, fun _ _ => .str y⟩
def txtOf : Value → Option Str
  | .str y _ => some y
  | _ => none
theorem txts_of : ∀ {its : List Value} {ss : List Str}, its.map txtOf = ss.map some → Vals (ss.map V.str) its
  | [], [], _ => .nil
  | v :: its, s :: ss, h => by
    simp only [List.map_cons, List.cons.injEq] at h
    refine .cons ?_ (txts_of h.2)
    cases v with
    | str y t => cases h.1; exact ⟨t, rfl⟩
    | _ => exact absurd h.1 (by simp [txtOf])
  | [], _ :: _, h => by simp at h
  | _ :: _, [], h => by simp at h
theorem Rs.of_txts {K : PySem.W.Frag} {Z : Zn} {H : Hp} : ∀ (ss : List Str), Rs K Z H (ss.map V.str) (ss.map PyData.str)
  | [] => .nil
  | s :: ss => .cons (.str s) (Rs.of_txts ss)
theorem CK.tup {K : PySem.W.Frag} {x : Str} {ss : List Str} {a : Addr} {od : Option Addr} {its : Array Value} {n : Nat} {sl : Array (Option Value)} (h : PySem.W.nsIn K mainGlobals x = some (some (.ref a))) (hl : K.lookup a = some ⟨.type "tuple", od, .seq its n, sl⟩)
    (hi : its.toList.map txtOf = ss.map some) (hz : its.size ≤ sizeLine) : CK K (x, .tuple (ss.map PyData.str)) :=
  ⟨_, .ref a, h, rfl, fun _ _ => .ktup (.inr ⟨_, its, n, hl, rfl, rfl, hz, txts_of hi⟩) (Rs.of_txts ss)⟩
theorem con_of {K : PySem.W.Frag} {mg : Str → Option Value} {h₀ : Heap} (KX : K.In h₀) (G : h₀.Ns mainGlobals mg) : ∀ {cl : List (Str × D)}, AllP (CK K) cl → ∀ x d, cl.lookup x = some d → ∃ u v, mg x = some u ∧ RelV v u ∧ ∀ Z H, R K Z H v d
  | [], _, _, _, h => by cases h
  | (y, d0) :: cl, .cons hc t, x, d, h => by
    rw [List.lookup_cons] at h
    cases q : x == y with
    | true =>
      rw [q] at h
      cases h
      obtain ⟨u, v, h1, h2, h3⟩ := hc.ex
      rw [beq_iff_eq.mp q]
      exact ⟨u, v, PySem.W.mg_of KX G h1, h2, h3⟩
    | false =>
      rw [q] at h
      exact con_of KX G t x d h
theorem bl_of {K : PySem.W.Frag} {mg : Str → Option Value} {h₀ : Heap} (KX : K.In h₀) (G : h₀.Ns mainGlobals mg) {bl : List Str} (h : AllP (fun x => PySem.W.nsIn K mainGlobals x = some none) bl) : ∀ x, bl.contains x = true → mg x = none := fun x hx =>
  PySem.W.mg_none_of KX G (h.mem (by simpa using hx))
/-- what the end wants of a def with a table: where its code object and the table stand -/
structure TK (K : PySem.W.Frag) (q : Program) (p : Addr × Addr) : Prop where
  no : K.lookup p.2 = none
  ex : ∃ x, PySem.W.tabIn K x = some p ∧ ((PyProof.Rows.recsOf q).any fun e => e.name == x) = true
theorem TK.mk' {K : PySem.W.Frag} {q : Program} {c P fa : Addr} {x : Str} {oc : Value} {od : Option Addr} {fd : FuncData} {osl : Array (Option Value)} {kc : Value} {kd : Option Addr} {vs : Array Value} {ks : Array (Option Value)} (a : PySem.W.nsIn K mainGlobals x = some (some (.ref fa)))
    (l : K.lookup fa = some ⟨oc, od, .func fd, osl⟩) (hc : fd.code = .ref c) (h : K.lookup c = some ⟨kc, kd, .fields vs, ks⟩) (h11 : vs[11]? = some (.ref P)) (hn : K.lookup P = none) (hr : ((PyProof.Rows.recsOf q).any fun e => e.name == x) = true) : TK K q (c, P) :=
  ⟨hn, x, by unfold PySem.W.tabIn; simp only [a, l, hc, h, h11], hr⟩
/-- the outer things of a law: its longest script, the def's shape, the room -/
structure Outer (l : PySem.W.OpenLaw) (n k : Nat) (d : DefRec) : Prop where
  most : l.most = some n
  fits : n ≤ sizeLine
  plain : d.params.defaults = []
  room : Room k callerA
section
variable {q : Program} {loose : List Str} {XP : (Str → Option Value) → Heap → Prop} {YP : World → Heap → Prop} {d : DefRec} {l : PySem.W.OpenLaw} {n k : Nat} {x : Str} {K : Params → PySem.W.Frag} {CX : World → CXT}
/-- the walk's end: what the module's head left behind knows the tables too -/
theorem walk_dv (B : Outer l n k d) (known : ∀ (w : World) (h : Heap), YP w h → (K w.params).In h)
    (law : ∀ (w : World) (mg : Str → Option Value) (fa : Addr) (h : Heap), (K w.params).In h → h.Ns mainGlobals mg → mg d.name = some (.ref fa) → (∀ p, TK (K w.params) q p → PySem.W.CodeHd h p.1 p.2 ∧ h.get? p.2 = some (PySem.W.tabObj #[])) → LamX.LawAtS l w (K w.params) (CX w) k n x mg fa h)
    (calm : ∀ (w : World) (H : Hp) (s : Shared) (e : Value) (s' : Shared), CX w [] H s (fun _ _ _ => False) e s' → False) : PySem.W.WalkO q loose XP YP l.row.toRowW d [] fun f vs => PySem.call f vs := by
  apply Att.attach_callB B.most B.plain
  intro w _ top mg mb fa _ _ _ _ a _ ns ground says _ _ _ named at_a reads short bits quiet
  have inK := known w _ says
  have tables : ∀ p, TK (K w.params) q p → PySem.W.CodeHd top.heap p.1 p.2 ∧ top.heap.get? p.2 = some (PySem.W.tabObj #[]) := fun p hp => by
    have ⟨y, is, any⟩ := hp.ex
    cases f : (PyProof.Rows.recsOf q).find? (fun e => e.name == y) with
    | some r => exact PySem.W.tab_of ground.T inK f is
    | none =>
      have ⟨r, mem, yes⟩ := List.any_eq_true.mp any
      exact absurd yes (by simpa using List.find?_eq_none.mp f r mem)
  have ⟨_, _, _, empty, apart, codes, binds, promise, holds⟩ := law w mg fa _ inK ground.T.g named tables
  exact LamX.law_callTs inK ground.T.g ground.T.b ground.T.builtins ground.T.nolimit quiet empty apart codes ground.T.bmain at_a reads (Nat.le_trans short B.fits) B.room holds binds (fun H hH hS => promise H a ns short bits hH hS) fun H e s' => calm w H top e s'
end
/-- a class of flat objects, where it stands -/
structure KlK (K : PySem.W.Frag) (cls : Str) (flds : List Str) : Prop where
  ex : ∃ C, PySem.W.nsIn K mainGlobals cls = some (some (.ref C)) ∧ Cls K C ∧ ∀ f ∈ flds, NoAttr K C f
theorem KlK.mk' {K : PySem.W.Frag} {cls : Str} {flds : List Str} {C : Addr} (a : PySem.W.nsIn K mainGlobals cls = some (some (.ref C))) (h : Cls K C) (n : AllP (NoAttr K C) flds) : KlK K cls flds := ⟨C, a, h, fun _ m => n.mem m⟩
/-- THE END: the law's meaning on data is True -/
theorem xl_of {P : Program} {K : PySem.W.Frag} {mg : Str → Option Value} {xl : List (Str × List Str)} (h : AllP (fun p => XcOk P K mg p.1 p.2) xl) : ∀ cls ps, xl.lookup cls = some ps → XcOk P K mg cls ps := fun cls ps e => h.mem (PySem.mem_of_lookup e)
theorem kl_of {K : PySem.W.Frag} {mg : Str → Option Value} {h₀ : Heap} (KX : K.In h₀) (G : h₀.Ns mainGlobals mg) {kl : List (Str × List Str)} (h : AllP (fun p => KlK K p.1 p.2) kl) : ∀ cls fl, kl.lookup cls = some fl → ClOk K mg cls fl := fun cls fl e => by
  obtain ⟨C, h1, h2, h3⟩ := (h.mem (PySem.mem_of_lookup e)).ex
  exact ⟨C, PySem.W.mg_of KX G h1, h2, h3⟩
theorem law_end {q : Program} {lw : PySem.W.OpenLaw} {w : World} {K : PySem.W.Frag} {mg : Str → Option Value} {h₀ : Heap} {cs : List (Addr × Addr)} {lq : List (Addr × Str)} {L : List (Def × Stmt)} {cl : List (Str × D)} {bl : List Str} {xl : List (Str × List Str)} {kl : List (Str × List Str)} {d : Def} {stm : Stmt} {x : Str} {fa : Addr} {n : Nat} (KX : K.In h₀) (G : h₀.Ns mainGlobals mg)
    (hTk : ∀ p, TK K q p → PySem.W.CodeHd h₀ p.1 p.2 ∧ h₀.get? p.2 = some (PySem.W.tabObj #[]))
    (un : oneName (L.map (·.1)) = true) (hS : AllP (fun p => DS bl xl (fnsOf (L.map (·.1))) (mtsOf (L.map (·.1))) kl p.1 p.2) L) (hd : (d, stm) ∈ L) (hat : d.at_ = none) (hio : d.kd = .pl) (hps : d.ps = [x]) (hmg : mg d.f = some (.ref fa))
    (hrun : ∀ ns : List Int, ns.length ≤ 63 → runBody { run := runs (fun y => cl.lookup y) (L.map (·.1)) n, con := fun y => cl.lookup y, io := false } d none [.list (ns.map .int)] = .ok (.bool true) none)
    (hF : AllP (fun p => DF K cs lq p.1 p.2) L) (hbl : AllP (fun x => PySem.W.nsIn K mainGlobals x = some none) bl) (hcon : AllP (CK K) cl) (hcs : AllP (TK K q) cs) (hxl : AllP (fun p => XcOk lw.prog K mg p.1 p.2) xl) (hkl : AllP (fun p => KlK K p.1 p.2) kl) :
    LamX.LawAtS lw w K (L2.CX lw.prog w) (2 * (n + 1)) 63 x mg fa h₀ := by
  obtain ⟨fa', oc, od, kV, doc, pm, an, cdv, ct, osl, a, l, c, k, gx⟩ := (hF.mem hd).ex
  replace a : Stand K d.f fa' d.at_ := a
  rw [hat] at a
  have e := hmg.symm.trans (PySem.W.mg_of KX G a)
  cases e
  have S := hS.mem hd
  have F := fun_mk (st := stm) l c k
  have tk : ∀ p ∈ cs, TK K q p := fun p hp => hcs.mem hp
  refine ⟨_, cs, spL K (tabsZ cs), fun p hp => (hTk p (tk p hp)).2, fun p hp => (tk p hp).no, fun p hp => (hTk p (tk p hp)).1, fun s v => .of_eq (by have := S.bd kV doc pm an cdv ct [v] (by rw [hps]; rfl); rw [hps] at this; exact this), fun H a ns hl _ hH hS => ?_, fun base hb hn hT => ?_⟩
  · exact ⟨a, ns, rfl, hS, hl, fun t ht => by
      obtain ⟨p, hp, rfl⟩ := List.mem_map.mp ht
      exact hH p hp, fun _ _ h => h⟩
  have hT' : ∀ p ∈ cs, GxR.TabB base mg p.1 p.2 := fun p hp => ⟨(hT p hp).code, (hT p hp).bm, (hT p hp).gP⟩
  have ok := def_ok (P := lw.prog) (w := w) (mg := mg) (base := base) (n := n) rfl rfl S l c (gx_of hT' gx) (fns_ok (oneName_of un) hS KX G hF hT' (bl_of KX G hbl) (xl_of hxl) (kl_of KX G hkl) (con_of KX G hcon) n) (bl_of KX G hbl) (xl_of hxl) (kl_of KX G hkl) (con_of KX G hcon)
  rw [hio, hps] at ok
  have hrun' : ∀ ns : List Int, ns.length ≤ 63 → runBody { run := runs (fun y => cl.lookup y) (L.map (·.1)) n, con := fun y => cl.lookup y, io := Kd.pl.isIo } (d, stm).fst none [.list (ns.map .int)] = .ok (.bool true) none := hrun
  refine ok.imp fun vs H Q E ⟨a, ns, e1, hl, hlen, ht, hq⟩ => ?_
  subst e1
  have tg : ∀ t, tabsZ cs t → TabG (tabsT cs lq mg w) H t := fun t h => ⟨#[], ht t h, trivial, fun q _ pos cv hc => by cases hc⟩
  rcases hl with hl | hl
  · refine ⟨rfl, fun b => b = a, fun b hb => ?_, fun t h => ⟨tg t h, fun z => ?_⟩, [.list (ns.map .int)], .cons (.lst rfl hl (Rs.of_ints ns)) .nil, ?_⟩
    · have hb : b = a := hb
      rw [hb]
      rcases hl with hl | ⟨o, hl⟩ <;> rw [hl] <;> simp
    · have z : t = a := z
      have e1 := ht t h
      rw [z] at e1
      rcases hl with hl | ⟨o, hl⟩ <;> rw [hl] at e1 <;> cases e1
    · rw [hrun' ns hlen]
      exact fun v Z' H' _ rv => hq v H' rv.bl_inv
  · refine ⟨rfl, fun b => False, fun b hb => hb.elim, fun t h => ⟨tg t h, fun z => z⟩, [.list (ns.map .int)], .cons (.klst (.inr hl) (Rs.of_ints ns)) .nil, ?_⟩
    rw [hrun' ns hlen]
    exact fun v Z' H' _ rv => hq v H' rv.bl_inv
end Dv

namespace Dv
open PySem PySem.Spec L2

/-! ### the evaluator, as rules for simp -/
def forB (c : Cfg) (t : CG) (b : CSs) (d : D) (S : Sto) : Fl := match bindG c t d S with
  | some S' => exs c b S'
  | none => .bad
section
variable {c : Cfg} {S : Sto} {a b e : CE} {es : CEs} {i : Nat} {α β : Type}
@[simp] theorem rb_ok {x : α} {g : α → Sto → Res β} : (Res.ok x S).bind g = g x S := (rfl)
@[simp] theorem rb_exc {x : Xc} {g : α → Sto → Res β} : (Res.exc x S : Res α).bind g = .exc x S := (rfl)
@[simp] theorem rf_ok {x : α} {g : α → Sto → Fl} : (Res.ok x S).fl g = g x S := (rfl)
@[simp] theorem rf_exc {x : Xc} {g : α → Sto → Fl} : (Res.exc x S : Res α).fl g = .exc x S := (rfl)
@[simp] theorem ro_some {x : α} : Res.of (some x) S = .ok x S := (rfl)
@[simp] theorem ft_nx {g : Sto → Fl} : (Fl.nx S).then g = g S := (rfl)
@[simp] theorem ft_rt {d : D} {g : Sto → Fl} : (Fl.rt d S).then g = .rt d S := (rfl)
@[simp] theorem ft_rtF {d : Ow} {g : Sto → Fl} : (Fl.rtF d S).then g = .rtF d S := (rfl)
@[simp] theorem ft_bk {g : Sto → Fl} : (Fl.bk S).then g = .bk S := (rfl)
@[simp] theorem ft_ct {g : Sto → Fl} : (Fl.ct S).then g = .ct S := (rfl)
@[simp] theorem ft_exc {x : Xc} {g : Sto → Fl} : (Fl.exc x S).then g = .exc x S := (rfl)
theorem rb_ite {p : Prop} [Decidable p] {x y : Res α} {g : α → Sto → Res β} : (if p then x else y).bind g = if p then x.bind g else y.bind g := by split <;> rfl
theorem rf_ite {p : Prop} [Decidable p] {x y : Res α} {g : α → Sto → Fl} : (if p then x else y).fl g = if p then x.fl g else y.fl g := by split <;> rfl
theorem ft_ite {p : Prop} [Decidable p] {x y : Fl} {g : Sto → Fl} : (if p then x else y).then g = if p then x.then g else y.then g := by split <;> rfl
@[simp] theorem ev_var : ev c (.var i) S = evVar c i S := (rfl)
@[simp] theorem ev_glo {x : Str} : ev c (.glo x) S = Res.of (c.con x) S := (rfl)
@[simp] theorem ev_int {i : Int} : ev c (.int i) S = .ok (.int i) S := (rfl)
@[simp] theorem ev_str {x : Str} : ev c (.str x) S = .ok (.str x) S := (rfl)
@[simp] theorem ev_bl {x : Bool} : ev c (.bl x) S = .ok (.bool x) S := (rfl)
@[simp] theorem ev_non : ev c .non S = .ok .none S := (rfl)
@[simp] theorem ev_bin {o : BO} : ev c (.bin o a b) S = (ev c a S).bind fun d1 S1 => (ev c b S1).bind fun d2 S2 => Res.of (o.g d1 d2) S2 := (rfl)
@[simp] theorem ev_neg : ev c (.neg a) S = (ev c a S).bind fun d1 S1 => Res.of (dNeg d1) S1 := (rfl)
@[simp] theorem ev_cmp {o : CO} : ev c (.cmp o a b) S = (ev c a S).bind fun d1 S1 => (ev c b S1).bind fun d2 S2 => Res.of (o.g d1 d2) S2 := (rfl)
@[simp] theorem ev_chain {o o' : CO} : ev c (.chain o o' a b e) S = (ev c a S).bind fun d1 S1 => (ev c b S1).bind fun d2 S2 => (Res.of ((o.g d1 d2).bind asBool) S2).bind fun k S3 => if k then (ev c e S3).bind fun d3 S4 => Res.of (o'.g d2 d3) S4 else .ok (.bool false) S3 := (rfl)
@[simp] theorem ev_orV : ev c (.orV a b) S = (ev c a S).bind fun d1 S1 => (Res.of (dTru d1) S1).bind fun k S2 => if k then .ok d1 S2 else ev c b S2 := (rfl)
@[simp] theorem ev_cnt : ev c (.cnt a b) S = (ev c a S).bind fun d1 S1 => if isLs d1 = true then (ev c b S1).bind fun d2 S2 => Res.of (dCount d1 d2) S2 else .bad := (rfl)
@[simp] theorem ev_chain3 {o o' o'' : CO} {z : CE} : ev c (.chain3 o o' o'' a b e z) S = (ev c a S).bind fun d1 S1 => (ev c b S1).bind fun d2 S2 => (Res.of ((o.g d1 d2).bind asBool) S2).bind fun k S3 => if k then (ev c e S3).bind fun d3 S4 => (Res.of ((o'.g d2 d3).bind asBool) S4).bind fun k' S5 => if k' then (ev c z S5).bind fun d4 S6 => Res.of (o''.g d3 d4) S6 else .ok (.bool false) S5 else .ok (.bool false) S3 := (rfl)
@[simp] theorem ev_and : ev c (.and_ a b) S = (ev c a S).bind fun d1 S1 => (Res.of (asBool d1) S1).bind fun k S2 => if k then ev c b S2 else .ok (.bool false) S2 := (rfl)
@[simp] theorem ev_or : ev c (.or_ a b) S = (ev c a S).bind fun d1 S1 => (Res.of (asBool d1) S1).bind fun k S2 => if k then .ok (.bool true) S2 else ev c b S2 := (rfl)
@[simp] theorem ev_not : ev c (.not_ a) S = (ev c a S).bind fun d1 S1 => (Res.of (asBool d1) S1).bind fun k S2 => .ok (.bool (!k)) S2 := (rfl)
@[simp] theorem ev_ite {t : CT} : ev c (.ite t a b) S = (evT c t S).bind fun k S1 => if k then ev c a S1 else ev c b S1 := (rfl)
@[simp] theorem ev_tup : ev c (.tup es) S = (evs c es S).bind fun ds S1 => if ds.length ≤ sizeLine then .ok (.tuple ds) S1 else .bad := (rfl)
@[simp] theorem ev_fr {f : CF} : ev c (.fr f) S = (evF c f S).bind fun o S1 => if o.isLst then .ok o.datum S1 else .bad := (rfl)
@[simp] theorem isLst_lst {ds : List D} : (Ow.lst ds).isLst = true := (rfl)
@[simp] theorem ev_bf {b : BF} : ev c (.bf b es) S = (evs c es S).bind fun ds S1 => Res.of (b.g ds) S1 := (rfl)
@[simp] theorem ev_isi {ty : String} : ev c (.isi a ty) S = (ev c a S).bind fun d1 S1 => Res.of (dIsi d1 ty) S1 := (rfl)
@[simp] theorem ev_item : ev c (.item a b) S = (ev c a S).bind fun d1 S1 => (ev c b S1).bind fun d2 S2 => Res.of (dItem d1 d2) S2 := (rfl)
@[simp] theorem ev_itemO : ev c (.itemO i b) S = if (peek S i).isSome then (ev c b S).bind fun d2 S2 => Res.of ((peek S2 i).bind fun d1 => dItem d1 d2) S2 else .bad := (rfl)
@[simp] theorem ev_lenO : ev c (.lenO i) S = Res.of ((peek S i).bind dLen) S := (rfl)
@[simp] theorem ev_inO {n : Bool} : ev c (.inO n a i) S = (ev c a S).bind fun d1 S1 => Res.of ((peek S1 i).bind fun d2 => (dInB n d1 d2).map .bool) S1 := (rfl)
@[simp] theorem ev_lenset : ev c (.lenset a) S = (ev c a S).bind fun d S1 => Res.of (dLenSet d) S1 := (rfl)
@[simp] theorem ev_rev : ev c (.rev a) S = (ev c a S).bind fun d S1 => Res.of (dRev d) S1 := (rfl)
@[simp] theorem ev_slice {lo hi : CEo} : ev c (.slice a lo hi) S = (ev c a S).bind fun d S1 => (evO c lo S1).bind fun l S2 => (evO c hi S2).bind fun h S3 => Res.of (dSlice d l h) S3 := (rfl)
@[simp] theorem evT_val : evT c (.val a) S = (ev c a S).bind fun d S1 => Res.of (asBool d) S1 := (rfl)
@[simp] theorem evT_cmp {o : CO} : evT c (.cmp o a b) S = (ev c a S).bind fun d1 S1 => (ev c b S1).bind fun d2 S2 => Res.of ((o.g d1 d2).bind asBool) S2 := (rfl)
@[simp] theorem evT_chain {o o' : CO} : evT c (.chain o o' a b e) S = (ev c a S).bind fun d1 S1 => (ev c b S1).bind fun d2 S2 => (Res.of ((o.g d1 d2).bind asBool) S2).bind fun k S3 => if k then (ev c e S3).bind fun d3 S4 => Res.of ((o'.g d2 d3).bind asBool) S4 else .ok false S3 := (rfl)
@[simp] theorem evT_chain3 {o o' o'' : CO} {z : CE} : evT c (.chain3 o o' o'' a b e z) S = (ev c a S).bind fun d1 S1 => (ev c b S1).bind fun d2 S2 => (Res.of ((o.g d1 d2).bind asBool) S2).bind fun k S3 => if k then (ev c e S3).bind fun d3 S4 => (Res.of ((o'.g d2 d3).bind asBool) S4).bind fun k' S5 => if k' then (ev c z S5).bind fun d4 S6 => Res.of ((o''.g d3 d4).bind asBool) S6 else .ok false S5 else .ok false S3 := (rfl)
@[simp] theorem evT_not {t : CT} : evT c (.not_ t) S = (evT c t S).bind fun k S1 => .ok (!k) S1 := (rfl)
@[simp] theorem evT_and {t t' : CT} : evT c (.and_ t t') S = (evT c t S).bind fun k S1 => if k then evT c t' S1 else .ok false S1 := (rfl)
@[simp] theorem evT_or {t t' : CT} : evT c (.or_ t t') S = (evT c t S).bind fun k S1 => if k then .ok true S1 else evT c t' S1 := (rfl)
@[simp] theorem evT_inO {n : Bool} : evT c (.inO n a i) S = (ev c a S).bind fun d1 S1 => Res.of ((peek S1 i).bind fun d2 => dInB n d1 d2) S1 := (rfl)
@[simp] theorem evF_lst : evF c (.lst es) S = (evs c es S).bind fun ds S1 => if ds.length ≤ sizeLine then .ok (.lst ds) S1 else .bad := (rfl)
@[simp] theorem evF_cat : evF c (.cat a b) S = (ev c a S).bind fun d1 S1 => (ev c b S1).bind fun d2 S2 => Res.of ((dCat d1 d2).map .lst) S2 := (rfl)
@[simp] theorem evF_sortK {ky : Ky} {y : Str} : evF c (.sortK ky y a) S = (ev c a S).bind fun d1 S1 => Res.of ((dSortK ky d1).map .lst) S1 := (rfl)
@[simp] theorem evF_bl {b : BL} : evF c (.bl b a) S = (ev c a S).bind fun d1 S1 => Res.of ((b.g d1).map .lst) S1 := (rfl)
@[simp] theorem evF_dnew : evF c .dnew S = .ok (.dct []) S := (rfl)
@[simp] theorem evF_listO : evF c (.listO i) S = Res.of (((peek S i).bind dListOf).map Ow.lst) S := (rfl)
@[simp] theorem evF_keysD : evF c (.keysD i) S = Res.of ((dctAt S i).map fun kvs => Ow.lst (kvs.map (·.1))) S := (rfl)
@[simp] theorem evF_sortD : evF c (.sortD i) S = Res.of (((dctAt S i).bind fun kvs => dSortDc (kvs.map (·.1))).map Ow.lst) S := (rfl)
@[simp] theorem evF_give : evF c (.give i) S = giveR c.io i S := (rfl)
@[simp] theorem giveR_at {io : Bool} {i : Nat} {S : Sto} {o : Ow} (h : S[i]? = some (.own o)) (hw : (o.isW || (io && i == 0)) = false) : giveR io i S = .ok o (S.set i .no) := by
  unfold giveR; rw [h]; dsimp only; rw [hw]; rfl
@[simp] theorem ev_getD {b : CE} : ev c (.getD i b) S = if (dctAt S i).isSome then (ev c b S).bind fun k S1 => Res.of (askKV S1 i k id) S1 else .bad := (rfl)
@[simp] theorem ev_hasD {n : Bool} : ev c (.hasD n a i) S = (ev c a S).bind fun k S1 => Res.of (askKV S1 i k fun o => some (.bool (o.isSome != n))) S1 := (rfl)
@[simp] theorem evT_hasD {n : Bool} : evT c (.hasD n a i) S = (ev c a S).bind fun k S1 => Res.of (askKV S1 i k fun o => some (o.isSome != n)) S1 := (rfl)
@[simp] theorem ev_orD {b z : CE} : ev c (.orD i b z) S = if (dctAt S i).isSome then (ev c b S).bind fun k S1 => (ev c z S1).bind fun w S2 => Res.of (askKV S2 i k fun o => some (o.getD w)) S2 else .bad := (rfl)
@[simp] theorem evF_repE : evF c (.repE es a) S = (evs c es S).bind fun ds S1 => if ds.length ≤ sizeLine then (ev c a S1).bind fun d S2 => Res.of ((dRep (.list ds) d).map Ow.lst) S2 else .bad := (rfl)
@[simp] theorem evF_rep {k : Int} : evF c (.rep es k) S = (evs c es S).bind fun ds S1 => if ds.length ≤ sizeLine then Res.of ((dRep (.list ds) (.int k)).map Ow.lst) S1 else .bad := (rfl)
@[simp] theorem evI_seq : evI c (.seq a) S = (ev c a S).bind fun d S1 => Res.of (dIter d) S1 := (rfl)
@[simp] theorem evI_zip {b : CE} : evI c (.zip a b) S = (ev c a S).bind fun d S1 => (ev c b S1).bind fun d' S2 => Res.of (dZip d d') S2 := (rfl)
@[simp] theorem evI_rng1 : evI c (.rng1 a) S = (ev c a S).bind fun d S1 => (Res.of (asInt d) S1).bind fun j S2 => if range62 j then .ok (rng 0 j.toNat) S2 else .bad := (rfl)
@[simp] theorem evI_rng2 : evI c (.rng2 a b) S = (ev c a S).bind fun d S1 => (ev c b S1).bind fun d' S2 => (Res.of (asInt d) S2).bind fun i S3 => (Res.of (asInt d') S3).bind fun j S4 => if range62 i && range62 j then .ok (rng i (j - i).toNat) S4 else .bad := (rfl)
@[simp] theorem evs_nil : evs c .nil S = .ok [] S := (rfl)
@[simp] theorem evs_cons : evs c (.cons a es) S = (ev c a S).bind fun d S1 => (evs c es S1).bind fun ds S2 => .ok (d :: ds) S2 := (rfl)
@[simp] theorem evO_none : evO c .none S = .ok none S := (rfl)
@[simp] theorem evO_some : evO c (.some a) S = (ev c a S).bind fun d S1 => (Res.of (asInt d) S1).bind fun i S2 => .ok (some i) S2 := (rfl)
@[simp] theorem evC_none : evC c .none S = .ok true S := (rfl)
@[simp] theorem evC_some {t : CT} : evC c (.some t) S = evT c t S := (rfl)
@[simp] theorem ex_set : ex c (.set i a) S = (ev c a S).fl fun d S1 => if c.io && i == 0 then .bad else .nx (S1.set i (.fro d)) := (rfl)
@[simp] theorem ex_own {f : CF} : ex c (.own i f) S = (evF c f S).fl fun o S1 => if c.io && i == 0 then .bad else .nx (S1.set i (.own o)) := (rfl)
@[simp] theorem ex_append : ex c (.append i a) S = if !(isOwnL S i) then .bad else (ev c a S).fl fun d S1 => match S1[i]? with
    | some (.own (.lst ds)) => if ds.length < sizeLine then .nx (S1.set i (.own (.lst (ds ++ [d])))) else .bad
    | _ => .bad := (rfl)
@[simp] theorem ex_extE : ex c (.extE i a) S = if !(isOwnL S i) then .bad else (ev c a S).fl fun d S1 => match S1[i]?, d with
    | some (.own (.lst ds)), .list es => if ds.length + es.length ≤ sizeLine then .nx (S1.set i (.own (.lst (ds ++ es)))) else .bad
    | _, _ => .bad := rfl
@[simp] theorem ex_extend {f : CF} : ex c (.extend i f) S = if !(isOwnL S i) then .bad else (evF c f S).fl fun o S1 => match S1[i]?, o with
    | some (.own (.lst ds)), .lst es => if ds.length + es.length ≤ sizeLine then .nx (S1.set i (.own (.lst (ds ++ es)))) else .bad
    | _, _ => .bad := (rfl)
@[simp] theorem ex_ret : ex c (.ret a) S = (ev c a S).fl fun d S1 => .rt d S1 := (rfl)
@[simp] theorem ex_retF {f : CF} : ex c (.retF f) S = (evF c f S).fl fun d S1 => .rtF d S1 := (rfl)
@[simp] theorem ft_rtT {d d' : D} {o : Ow} {g : Sto → Fl} : (Fl.rtT d d' o S).then g = .rtT d d' o S := (rfl)
@[simp] theorem ex_ret3 {b : CE} {k : Nat} : ex c (.ret3 a b k) S = (ev c a S).fl fun d1 S1 => (ev c b S1).fl fun d2 S2 => if c.io then .bad else match S2[k]? with
    | some (.own o) => .rtT d1 d2 o S2
    | _ => .bad := (rfl)
@[simp] theorem ex_retN : ex c .retN S = .rt .none S := (rfl)
@[simp] theorem ex_expr : ex c (.expr a) S = (ev c a S).fl fun _ S1 => .nx S1 := (rfl)
@[simp] theorem ex_if {t : CT} {x y : CSs} : ex c (.if_ t x y) S = (evT c t S).fl fun k S1 => if k then exs c x S1 else exs c y S1 := (rfl)
@[simp] theorem ex_for {t : CG} {it : CI} {x : CSs} : ex c (.for_ t it x) S = (evI c it S).fl fun ds S1 => forL (forB c t x) ds S1 := (rfl)
@[simp] theorem ex_while {t : CT} {x : CSs} : ex c (.while_ t x) S = whileL (evT c t) (exs c x) wfuel S := (rfl)
@[simp] theorem ex_pass : ex c .pass S = .nx S := (rfl)
@[simp] theorem ex_raise {cls : Str} {ps : List Str} {es : CEs} : ex c (.raise_ cls ps es) S = (evs c es S).fl fun ds S1 => if ds.length = ps.length then .exc ⟨cls, (ps.zip ds).reverse⟩ S1 else .bad := (rfl)
def tryE (cls : Str) (n : Option Nat) (r : XR) : Fl → Fl
  | .exc x S' => if x.cls = cls ∧ (∀ i, n = some i → i < S'.length) then (match r.val x with
      | some d => .rt d S'
      | none => .bad) else .bad
  | f => f
@[simp] theorem ex_try {cls : Str} {n : Option Nat} {b : CSs} {r : XR} : ex c (.try_ cls n b r) S = tryE cls n r (exs c b S) := by
  show (match exs c b S with
    | .exc x S' => if x.cls = cls ∧ (∀ i, n = some i → i < S'.length) then (match r.val x with
        | some d => Fl.rt d S'
        | none => .bad) else .bad
    | f => f) = _
  cases exs c b S <;> rfl
@[simp] theorem try_nx {cls : Str} {n : Option Nat} {r : XR} {S : Sto} : tryE cls n r (.nx S) = .nx S := (rfl)
@[simp] theorem try_rt {cls : Str} {n : Option Nat} {r : XR} {d : D} {S : Sto} : tryE cls n r (.rt d S) = .rt d S := (rfl)
theorem try_exc {cls : Str} {n : Option Nat} {r : XR} {x : Xc} {S : Sto} {d : D} (h1 : x.cls = cls) (h2 : ∀ i, n = some i → i < S.length) (h3 : r.val x = some d) : tryE cls n r (.exc x S) = .rt d S := by
  show (if _ then _ else _) = _
  rw [if_pos ⟨h1, h2⟩, h3]
def tryS (c : Cfg) (cls : Str) (n : Nat) (vs : List XV) (ws : List XW) : Fl → Fl
  | .exc x S' => tryIX c cls n vs ws x S'
  | f => f
@[simp] theorem ex_tryI {cls : Str} {n : Nat} {b : CSs} {vs : List XV} {ws : List XW} : ex c (.tryI cls n b vs ws) S = tryS c cls n vs ws (exs c b S) := by
  show (match exs c b S with
    | .exc x S' => tryIX c cls n vs ws x S'
    | f => f) = _
  cases exs c b S <;> rfl
@[simp] theorem tryS_nx {cls : Str} {n : Nat} {vs : List XV} {ws : List XW} {S : Sto} : tryS c cls n vs ws (.nx S) = .nx S := (rfl)
@[simp] theorem tryS_rt {cls : Str} {n : Nat} {vs : List XV} {ws : List XW} {d : D} {S : Sto} : tryS c cls n vs ws (.rt d S) = .rt d S := (rfl)
theorem tryS_exc {cls : Str} {n : Nat} {vs : List XV} {ws : List XW} {x : Xc} {S : Sto} {ds es : List D} (h1 : x.cls = cls) (h2 : n < S.length) (h3 : ws.all (XW.not_ n) = true) (h4 : vs.length ≤ 1000 ∧ ws.length ≤ 1000) (h5 : (c.io && n == 0) = false) (h6 : XV.vals x vs = some ds) (h7 : XW.vals S ws = some es) (h8 : dNe (.tuple ds) (.tuple es) = some (.bool false)) :
    tryS c cls n vs ws (.exc x S) = .nx (S.set n .no) := by
  show tryIX c cls n vs ws x S = _
  unfold tryIX
  rw [if_pos ⟨h1, h2, ⟨h3, h4.1, h4.2⟩, h5⟩, h6, h7]
  dsimp only
  rw [h8]
def tryU (cls : Str) (n : Nat) (vs : List XV) : Fl → Fl
  | .exc x S' => tryBX cls n vs x S'
  | f => f
@[simp] theorem ex_tryB {base cls : Str} {n : Nat} {b : CSs} {vs : List XV} : ex c (.tryB base cls n b vs) S = tryU cls n vs (exs c b S) := by
  show (match exs c b S with
    | .exc x S' => tryBX cls n vs x S'
    | f => f) = _
  cases exs c b S <;> rfl
@[simp] theorem tryU_nx {cls : Str} {n : Nat} {vs : List XV} {S : Sto} : tryU cls n vs (.nx S) = .nx S := (rfl)
@[simp] theorem tryU_rt {cls : Str} {n : Nat} {vs : List XV} {d : D} {S : Sto} : tryU cls n vs (.rt d S) = .rt d S := (rfl)
theorem tryU_exc {cls : Str} {n : Nat} {vs : List XV} {x : Xc} {S : Sto} {d : D} (h1 : x.cls = cls) (h2 : n < S.length) (h3 : (XR.tup vs).val x = some d) : tryU cls n vs (.exc x S) = .rt d S := by
  show tryBX cls n vs x S = _
  unfold tryBX
  rw [if_pos ⟨h1, h2⟩, h3]
@[simp] theorem ex_brk : ex c .brk S = .bk S := (rfl)
@[simp] theorem ex_cont : ex c .cont S = .ct S := (rfl)
@[simp] theorem exs_nil : exs c .nil S = .nx S := (rfl)
@[simp] theorem exs_cons {s : CS} {r : CSs} : exs c (.cons s r) S = (ex c s S).then (exs c r) := (rfl)
end

/-! ### calls -/
section
variable (con : Str → Option D) (T : List Def)
abbrev cfg (n : Nat) (io : Bool) : Cfg := ⟨runs con T n, con, io⟩
def RF (n : Nat) : RunF := fun f oi ds => match runs con T n with
  | r :: _ => r f oi ds
  | [] => .bad
end
section
variable {con : Str → Option D} {T : List Def} {n : Nat} {io : Bool} {f : Str} {es : CEs} {S : Sto}
theorem RF_succ {d : Def} {oi : Option Ow} {ds : List D} (h : lookupDef T f = some d) : RF con T (n + 1) f oi ds = runBody (cfg con T n d.kd.isIo) d oi ds := by
  unfold RF
  simp only [runs, h]
theorem RF_pl {d : Def} {ds : List D} (h : lookupDef T f = some d) (hk : d.kd = .pl) (hl : ds.length = d.ps.length) : RF con T (n + 1) f none ds = endR .pl (exs (cfg con T n false) d.body (ds.map .fro ++ List.replicate (d.N.length - ds.length) .no)) := by
  rw [RF_succ h]
  unfold runBody
  rw [if_pos (by unfold fitR; rw [hk]; simp [Kd.isIo, hl])]
  rw [hk]
  simp [begS, Kd.isIo]
theorem RF_io {d : Def} {o : Ow} {ds : List D} (h : lookupDef T f = some d) (hk : d.kd = .io) (hl : ds.length + 1 = d.ps.length) : RF con T (n + 1) f (some o) ds = endR .io (exs (cfg con T n true) d.body (.own o :: ds.map .fro ++ List.replicate (d.N.length - (ds.length + 1)) .no)) := by
  rw [RF_succ h]
  unfold runBody
  rw [if_pos (by unfold fitR; rw [hk]; simp [Kd.isIo, hl])]
  rw [hk]
  simp [begS, Kd.isIo, Nat.add_comm]
theorem RF_fr {d : Def} {ds : List D} (h : lookupDef T f = some d) (hk : d.kd = .fr) (hl : ds.length = d.ps.length) : RF con T (n + 1) f none ds = endR .fr (exs (cfg con T n false) d.body (ds.map .fro ++ List.replicate (d.N.length - ds.length) .no)) := by
  rw [RF_succ h]
  unfold runBody
  rw [if_pos (by unfold fitR; rw [hk]; simp [Kd.isIo, hl])]
  rw [hk]
  simp [begS, Kd.isIo]
theorem runs_ne (hn : 0 < n) : (runs con T n).isEmpty = false := by
  cases n with
  | zero => omega
  | succ n => rfl
theorem ev_call (hn : 0 < n) : ev (cfg con T n io) (.call f es) S = (evs (cfg con T n io) es S).bind fun ds S1 => match RF con T n f none ds with
    | .ok d none => .ok d S1
    | .exc x => .exc x S1
    | _ => .bad := by
  have e : ev (cfg con T n io) (.call f es) S = if (runs con T n).isEmpty then .bad else (evs (cfg con T n io) es S).bind fun ds S1 => callR (cfg con T n io) f ds S1 := rfl
  rw [e, runs_ne hn]
  cases n with
  | zero => omega
  | succ n => rfl
theorem ev_lend {a b : CE} {i : Nat} (hn : 0 < n) : ev (cfg con T n io) (.lend f a i b) S = (ev (cfg con T n io) a S).bind fun d1 S1 => if isOwnL S1 i then (ev (cfg con T n io) b S1).bind fun d2 S2 => lendR (cfg con T n io) f i d1 d2 S2 else .bad := by
  have e : ev (cfg con T n io) (.lend f a i b) S = if (runs con T n).isEmpty then .bad else (ev (cfg con T n io) a S).bind fun d1 S1 => if isOwnL S1 i then (ev (cfg con T n io) b S1).bind fun d2 S2 => lendR (cfg con T n io) f i d1 d2 S2 else .bad := rfl
  rw [e, runs_ne hn]
  rfl
theorem lend_ok {i : Nat} {d1 d2 d : D} {ds : List D} (hn : 0 < n) (h1 : S[i]? = some (.own (.lst ds))) (h2 : RF con T n f none [d1, .list ds, d2] = .ok d none) (h3 : noLst d = true) : lendR (cfg con T n io) f i d1 d2 S = .ok d S := by
  have e : callR (cfg con T n io) f [d1, .list ds, d2] S = .ok d S := by
    cases n with
    | zero => omega
    | succ n =>
      show (match RF con T (n + 1) f none [d1, .list ds, d2] with
        | .ok d none => Res.ok d S
        | .exc x => .exc x S
        | _ => .bad) = _
      rw [h2]
  unfold lendR
  rw [h1]
  dsimp only
  rw [e]
  dsimp only
  rw [if_pos h3]
theorem ev_callIO {i : Nat} (hn : 0 < n) : ev (cfg con T n io) (.callIO f i es) S = if !(isOwn S i) then .bad else (evs (cfg con T n io) es S).bind fun ds S1 => match S1[i]? with
    | some (.own o) => if o.isW then .bad else match RF con T n f (some o) ds with
      | .ok d (some o') => .ok d (S1.set i (.own o'))
      | .exc x => .exc x (S1.set i .no)
      | _ => .bad
    | _ => .bad := by
  have e : ev (cfg con T n io) (.callIO f i es) S = if (runs con T n).isEmpty || !(isOwn S i) then .bad else (evs (cfg con T n io) es S).bind fun ds S1 => callIOR (cfg con T n io) f i ds S1 := rfl
  rw [e, runs_ne hn]
  cases n with
  | zero => omega
  | succ n => rfl
theorem ev_meth {cls m : Str} {i : Nat} (hn : 0 < n) : ev (cfg con T n io) (.meth cls m f i es) S = if !(isObj S i cls m) then .bad else (evs (cfg con T n io) es S).bind fun ds S1 => if isObj S1 i cls m then (match S1[i]? with
    | some (.own o) => if o.isW then .bad else match RF con T n f (some o) ds with
      | .ok d (some o') => .ok d (S1.set i (.own o'))
      | .exc x => .exc x (S1.set i .no)
      | _ => .bad
    | _ => .bad) else .bad := by
  have e : ev (cfg con T n io) (.meth cls m f i es) S = if (runs con T n).isEmpty || !(isObj S i cls m) then .bad else (evs (cfg con T n io) es S).bind fun ds S1 => if isObj S1 i cls m then callIOR (cfg con T n io) f i ds S1 else .bad := rfl
  rw [e, runs_ne hn]
  cases n with
  | zero => omega
  | succ n => rfl
theorem ex_newO {cls : Str} {i : Nat} (hn : 0 < n) : ex (cfg con T n io) (.newO i cls f es) S = ((evs (cfg con T n io) es S).bind fun ds S1 => match RF con T n f (some (.obj cls [])) ds with
    | .ok .none (some o) => Res.ok o S1
    | _ => .bad).fl fun o S1 => if io && i == 0 then .bad else .nx (S1.set i (.own o)) := by
  have e : ex (cfg con T n io) (.newO i cls f es) S = (if (runs con T n).isEmpty then .bad else (evs (cfg con T n io) es S).bind fun ds S1 => newR (cfg con T n io) cls f ds S1).fl fun o S1 => if io && i == 0 then .bad else .nx (S1.set i (.own o)) := rfl
  rw [e, runs_ne hn]
  cases n with
  | zero => omega
  | succ n => rfl
theorem evF_call (hn : 0 < n) : evF (cfg con T n io) (.call f es) S = (evs (cfg con T n io) es S).bind fun ds S1 => match RF con T n f none ds with
    | .okF o => .ok o S1
    | .exc x => .exc x S1
    | _ => .bad := by
  have e : evF (cfg con T n io) (.call f es) S = if (runs con T n).isEmpty then .bad else (evs (cfg con T n io) es S).bind fun ds S1 => callFR (cfg con T n io) f ds S1 := rfl
  rw [e, runs_ne hn]
  cases n with
  | zero => omega
  | succ n => rfl
end

/-! ### loops -/
/-- a loop whose turns all go on -/
theorem forL_inv {body : D → Sto → Fl} (I : Nat → Sto → Prop) : ∀ (ds : List D) (S : Sto) (k : Nat), I k S → (∀ (i : Nat) (h : i < ds.length) (S : Sto), I (k + i) S → ∃ S', (body ds[i] S = .nx S' ∨ body ds[i] S = .ct S') ∧ I (k + i + 1) S') → ∃ S', forL body ds S = .nx S' ∧ I (k + ds.length) S'
  | [], S, k, h0, _ => ⟨S, rfl, h0⟩
  | d :: ds, S, k, h0, st => by
    obtain ⟨S', h1, h2⟩ := st 0 (by simp) S h0
    obtain ⟨S'', h3, h4⟩ := forL_inv I ds S' (k + 1) h2 (fun i h S q => by
      have := st (i + 1) (by simpa using h) S (by rwa [Nat.add_assoc, Nat.add_comm 1 i] at q)
      simpa [Nat.add_assoc, Nat.add_comm 1 i] using this)
    refine ⟨S'', ?_, by simpa [Nat.add_assoc, Nat.add_comm 1] using h4⟩
    have h1 : body d S = .nx S' ∨ body d S = .ct S' := h1
    unfold forL
    rcases h1 with h1 | h1 <;> rw [h1] <;> exact h3
/-- a loop whose end is told -/
theorem forL_wp {body : D → Sto → Fl} {Q : Fl → Prop} (I : Nat → Sto → Prop) : ∀ (ds : List D) (S : Sto) (k : Nat), I k S → (∀ (i : Nat) (h : i < ds.length) (S : Sto), I (k + i) S → match body ds[i] S with
    | .nx S' => I (k + i + 1) S'
    | .ct S' => I (k + i + 1) S'
    | .bk S' => Q (.nx S')
    | f => Q f) → (∀ S, I (k + ds.length) S → Q (.nx S)) → Q (forL body ds S)
  | [], S, k, h0, _, q => q S h0
  | d :: ds, S, k, h0, st, q => by
    have h1 : match body d S with
      | .nx S' => I (k + 0 + 1) S'
      | .ct S' => I (k + 0 + 1) S'
      | .bk S' => Q (.nx S')
      | f => Q f := st 0 (by simp) S h0
    have rest : ∀ S', I (k + 0 + 1) S' → Q (forL body ds S') := fun S' h2 => forL_wp I ds S' (k + 1) h2 (fun i h S q => by
      have := st (i + 1) (by simpa using h) S (by rwa [Nat.add_assoc, Nat.add_comm 1 i] at q)
      simpa [Nat.add_assoc, Nat.add_comm 1 i] using this) (fun S h => q S (by simpa [Nat.add_assoc, Nat.add_comm 1] using h))
    unfold forL
    revert h1
    cases body d S <;> intro h1 <;> first | exact rest _ h1 | exact h1
/-- a comprehension whose turns leave the store as it was -/
theorem lcL_map {vs : List Nat} {bind : D → Sto → Option Sto} {test : Sto → Res Bool} {elt : Sto → Res D} {S : Sto} (p : D → Bool) (g : D → D) : ∀ (ds acc : List D), acc.length + ds.length ≤ sizeLine →
    (∀ d ∈ ds, ∃ S1, bind d S = some S1 ∧ test S1 = .ok (p d) S1 ∧ (p d = true → elt S1 = .ok (g d) S1) ∧ wipeS S1 vs = S) → lcL vs bind test elt ds acc S = .ok (acc ++ (ds.filter p).map g) S
  | [], acc, _, _ => by simp [lcL]
  | d :: ds, acc, hz, h => by
    obtain ⟨S1, h1, h2, h3, h4⟩ := h d (by simp)
    have hz' : acc.length + ds.length + 1 ≤ sizeLine := by simpa [Nat.add_assoc] using hz
    unfold lcL
    rw [h1]
    simp only [h2, rb_ok]
    by_cases q : p d = true
    · rw [if_pos q, h3 q]
      simp only [rb_ok]
      rw [if_pos (by omega), h4, lcL_map p g ds _ (by simp; omega) fun d hd => h d (by simp [hd])]
      simp [q]
    · rw [if_neg q, h4, lcL_map p g ds _ (by omega) fun d hd => h d (by simp [hd])]
      simp [q]

/-! ### data -/
mutual
def nod : D → Bool
  | .list xs => nods xs
  | .tuple xs => nods xs
  | .dict _ => false
  | _ => true
def nods : List D → Bool
  | [] => true
  | x :: xs => nod x && nods xs
end
mutual
theorem eqv_refl : ∀ d : D, nod d = true → PyData.eqv d d = true
  | .none, _ => by simp [PyData.eqv]
  | .bool _, _ => by simp [PyData.eqv]
  | .int _, _ => by simp [PyData.eqv]
  | .str _, _ => by simp [PyData.eqv]
  | .list xs, h => by rw [PyData.eqv]; exact eqvAll_refl xs (by simpa [nod] using h)
  | .tuple xs, h => by rw [PyData.eqv]; exact eqvAll_refl xs (by simpa [nod] using h)
  | .dict _, h => by simp [nod] at h
theorem eqvAll_refl : ∀ ds : List D, nods ds = true → PyData.eqvAll ds ds = true
  | [], _ => by simp [PyData.eqvAll]
  | x :: xs, h => by
    simp only [nods, Bool.and_eq_true] at h
    rw [PyData.eqvAll, eqv_refl x h.1, eqvAll_refl xs h.2]
    rfl
end
theorem nods_mem : ∀ {ds : List D}, (∀ d ∈ ds, nod d = true) → nods ds = true
  | [], _ => rfl
  | x :: xs, h => by rw [nods, h x (by simp), nods_mem fun d hd => h d (by simp [hd])]; rfl
theorem depthAll_le : ∀ {ds : List D} {k : Nat}, (∀ d ∈ ds, d.depth ≤ k) → PyData.depthAll ds ≤ k
  | [], _, _ => by simp [PyData.depthAll]
  | x :: xs, k, h => by
    rw [PyData.depthAll]
    exact Nat.max_le.mpr ⟨h x (by simp), depthAll_le fun d hd => h d (by simp [hd])⟩
@[simp] theorem nod_int {i : Int} : nod (.int i) = true := rfl
@[simp] theorem nod_ints (ns : List Int) : nods (ns.map .int) = true := nods_mem (by simp)
@[simp] theorem depth_ints (ns : List Int) : PyData.depthAll (ns.map .int) = 0 := by
  induction ns with
  | nil => simp [PyData.depthAll]
  | cons a r ih => simp [PyData.depthAll, PyData.depth, ih]
@[simp] theorem depth_int {i : Int} : PyData.depth (.int i) = 0 := by simp [PyData.depth]
theorem dEq_int {i j : Int} : dEq (.int i) (.int j) = some (.bool (decide (i = j))) := by
  simp [dEq, PyData.eqv, BEq.beq]
theorem dEq_self {d : D} (h : nod d = true) (hd : d.depth ≤ 60) : dEq d d = some (.bool true) := by
  unfold dEq
  rw [if_pos (by simpa using hd), eqv_refl d h]
theorem dNe_self {d : D} (h : nod d = true) (hd : d.depth ≤ 60) : dNe d d = some (.bool false) := by
  unfold dNe
  rw [if_pos (by simpa using hd), eqv_refl d h]
  rfl
theorem atI_natD {α : Type} {xs : List α} {k : Nat} : atI xs (k : Int) = xs[k]? := by
  unfold atI ixN
  rw [if_pos (by omega)]
  by_cases h : k < xs.length
  · rw [if_pos (by omega)]; simp
  · rw [if_neg (by omega)]; simp; omega
theorem cutD_to {α : Type} {xs : List α} {k : Nat} : cutD xs none (some (k : Int)) = xs.take k := by
  unfold cutD
  rw [HT.sIx_none, HT.sIx_nat]
  simp
theorem cutD_from {α : Type} {xs : List α} {k : Nat} : cutD xs (some (k : Int)) none = xs.drop k := by
  unfold cutD
  rw [HT.sIx_none, HT.sIx_nat]
  by_cases h : k ≤ xs.length
  · rw [Nat.min_eq_left h, List.take_of_length_le (by simp)]
  · rw [Nat.min_eq_right (by omega), List.take_of_length_le (by simp), List.drop_of_length_le (by omega), List.drop_of_length_le (by omega)]
@[simp] theorem lt_int {i j : Int} : dLt (.int i) (.int j) = some (.bool (decide (i < j))) := by simp [dLt, PySem.W.alike, PySem.W.dataLt_int, notNone]
@[simp] theorem gt_int {i j : Int} : dGt (.int i) (.int j) = some (.bool (decide (j < i))) := by simp [dGt, PySem.W.alike, PySem.W.dataLt_int, notNone]
@[simp] theorem le_int {i j : Int} : dLe (.int i) (.int j) = some (.bool (decide (i ≤ j))) := by simp [dLe, PySem.W.alike, PySem.W.dataLt_int, notNone, Int.not_lt, ← decide_not]
@[simp] theorem ge_int {i j : Int} : dGe (.int i) (.int j) = some (.bool (decide (j ≤ i))) := by simp [dGe, PySem.W.alike, PySem.W.dataLt_int, notNone, Int.not_lt, ← decide_not]
@[simp] theorem eq_int {i j : Int} : dEq (.int i) (.int j) = some (.bool (decide (i = j))) := dEq_int
@[simp] theorem ne_int {i j : Int} : dNe (.int i) (.int j) = some (.bool (decide (i ≠ j))) := by
  simp [dNe, PyData.eqv, BEq.beq]
@[simp] theorem add_int {i j : Int} : dAddL (.int i) (.int j) = some (.int (i + j)) := rfl
@[simp] theorem sub_int {i j : Int} : dSub (.int i) (.int j) = some (.int (i - j)) := rfl
@[simp] theorem g_len : BF.len.g = one dLen := (rfl)
@[simp] theorem g_sum : BF.sum.g = one dSum := (rfl)
@[simp] theorem g_max : BF.max2.g = two dMax := (rfl)
@[simp] theorem g_min : BF.min2.g = two dMin := (rfl)
@[simp] theorem g_int : BF.int1.g = one dInt := (rfl)
@[simp] theorem g_tup : BF.tuple1.g = one dTuple := (rfl)
@[simp] theorem g_min1 : BF.min1.g = one dMin1 := (rfl)
@[simp] theorem g_max1 : BF.max1.g = one dMax1 := (rfl)
@[simp] theorem one_1 {α : Type} {f : D → Option α} {a : D} : one f [a] = f a := (rfl)
@[simp] theorem two_2 {α : Type} {f : D → D → Option α} {a b : D} : two f [a, b] = f a b := (rfl)
@[simp] theorem len_list {xs : List D} : dLen (.list xs) = some (.int xs.length) := (rfl)
@[simp] theorem len_tuple {xs : List D} : dLen (.tuple xs) = some (.int xs.length) := (rfl)
@[simp] theorem g_eq : CO.eq.g = dEq := (rfl)
@[simp] theorem g_ne : CO.ne.g = dNe := (rfl)
@[simp] theorem g_lt : CO.lt.g = dLt := (rfl)
@[simp] theorem g_le : CO.le.g = dLe := (rfl)
@[simp] theorem g_gt : CO.gt.g = dGt := (rfl)
@[simp] theorem g_ge : CO.ge.g = dGe := (rfl)
@[simp] theorem g_is : CO.is.g = dIsN := (rfl)
@[simp] theorem g_isnot : CO.isnot.g = dNotN := (rfl)
@[simp] theorem g_in : CO.in_.g = dIn := (rfl)
@[simp] theorem g_notin : CO.notin.g = dNotIn := (rfl)
@[simp] theorem g_add : BO.add.g = dAddL := (rfl)
@[simp] theorem g_sub : BO.sub.g = dSub := (rfl)
@[simp] theorem g_mul : BO.mul.g = dMulL := (rfl)
@[simp] theorem g_mod : BO.mod.g = dMod := (rfl)
@[simp] theorem mulL_int {i : Int} {b : D} : dMulL (.int i) b = dMul (.int i) b := (rfl)
@[simp] theorem mulL_tup {xs : List D} {b : D} : dMulL (.tuple xs) b = dRepT (.tuple xs) b := (rfl)
@[simp] theorem g_div : BO.div.g = dDiv := (rfl)
@[simp] theorem g_pow : BO.pow.g = dPow := (rfl)
@[simp] theorem g_list1 : BL.list1.g = dListOf := (rfl)
@[simp] theorem g_sorted1 : BL.sorted1.g = dSorted := (rfl)
@[simp] theorem asBool_b {b : Bool} : asBool (.bool b) = some b := (rfl)
@[simp] theorem asInt_i {b : Int} : asInt (.int b) = some b := (rfl)
@[simp] theorem neg_int {i : Int} : dNeg (.int i) = some (.int (-i)) := (rfl)
@[simp] theorem item_list {xs : List D} {i : Int} : dItem (.list xs) (.int i) = atI xs i := (rfl)
@[simp] theorem item_tuple {xs : List D} {i : Int} : dItem (.tuple xs) (.int i) = atI xs i := (rfl)
@[simp] theorem slice_list {xs : List D} {lo hi : Option Int} : dSlice (.list xs) lo hi = some (.list (cutD xs lo hi)) := (rfl)
@[simp] theorem slice_tuple {xs : List D} {lo hi : Option Int} : dSlice (.tuple xs) lo hi = some (.tuple (cutD xs lo hi)) := (rfl)
@[simp] theorem rev_tuple {xs : List D} : dRev (.tuple xs) = some (.tuple xs.reverse) := (rfl)
@[simp] theorem rev_list {xs : List D} : dRev (.list xs) = some (.list xs.reverse) := (rfl)
@[simp] theorem iter_list {xs : List D} : dIter (.list xs) = some xs := (rfl)
@[simp] theorem iter_tuple {xs : List D} : dIter (.tuple xs) = some xs := (rfl)
@[simp] theorem iter_str {z : Str} : dIter (.str z) = some (z.cps.toList.map fun c => .str ⟨#[c]⟩) := (rfl)
@[simp] theorem zip_tuple {xs ys : List D} : dZip (.tuple xs) (.tuple ys) = some ((xs.zip ys).map fun p => .tuple [p.1, p.2]) := (rfl)
@[simp] theorem listOf_list {xs : List D} : dListOf (.list xs) = some xs := (rfl)
@[simp] theorem listOf_tuple {xs : List D} : dListOf (.tuple xs) = some xs := (rfl)
@[simp] theorem tuple_list {xs : List D} : dTuple (.list xs) = some (.tuple xs) := (rfl)
@[simp] theorem tuple_tuple {xs : List D} : dTuple (.tuple xs) = some (.tuple xs) := (rfl)
@[simp] theorem datum_lst {xs : List D} : (Ow.lst xs).datum = .list xs := (rfl)
@[simp] theorem ao_list {xs ys : List D} : dAddL (.list xs) (.list ys) = if xs.length + ys.length ≤ sizeLine then some (.list (xs ++ ys)) else none := by
  show (if xs.length + ys.length ≤ sizeLine then some (xs ++ ys) else none).map PyData.list = _
  split <;> rfl
@[simp] theorem ao_tuple {xs ys : List D} : dAddL (.tuple xs) (.tuple ys) = if xs.length + ys.length ≤ sizeLine then some (.tuple (xs ++ ys)) else none := (rfl)
@[simp] theorem cat_list {xs ys : List D} : dCat (.list xs) (.list ys) = if xs.length + ys.length ≤ sizeLine then some (xs ++ ys) else none := (rfl)
@[simp] theorem mod_int {i j : Int} : dMod (.int i) (.int j) = if j ≠ 0 then some (.int (i.fmod j)) else none := (rfl)
@[simp] theorem endR_rt {d : D} {S : Sto} : endR .pl (.rt d S) = .ok d none := (rfl)
@[simp] theorem endR_nx {S : Sto} : endR .pl (.nx S) = .ok .none none := (rfl)
@[simp] theorem endR_exc {x : Xc} {S : Sto} {kd : Kd} : endR kd (.exc x S) = .exc x := (rfl)
theorem endR_ite {p : Prop} [Decidable p] {x y : Fl} {kd : Kd} : endR kd (if p then x else y) = if p then endR kd x else endR kd y := by split <;> rfl
@[simp] theorem evVar_fro {c : Cfg} {i : Nat} {S : Sto} {d : D} (h : S[i]? = some (.fro d)) : evVar c i S = .ok d S := by
  unfold evVar; rw [h]
@[simp] theorem evVar_own {c : Cfg} {i : Nat} {S : Sto} {o : Ow} (h : S[i]? = some (.own o)) (hc : (c.io && i == 0) = false) (hl : o.isLst = true) : evVar c i S = .ok o.datum (S.set i (.fro o.datum)) := by
  unfold evVar; rw [h, hc]; dsimp only; rw [hl]; rfl
@[simp] theorem peek_fro {i : Nat} {S : Sto} {d : D} (h : S[i]? = some (.fro d)) : peek S i = some d := by
  unfold peek; rw [h]
@[simp] theorem peek_own {i : Nat} {S : Sto} {o : Ow} (h : S[i]? = some (.own o)) (hl : o.isLst = true) : peek S i = some o.datum := by
  unfold peek; rw [h]; dsimp only; rw [hl]; rfl
@[simp] theorem isW_lst {ds : List D} : (Ow.lst ds).isW = false := (rfl)
@[simp] theorem isW_obj {k : Str} {fs : List (Str × D)} : (Ow.obj k fs).isW = false := (rfl)
@[simp] theorem isW_dct {kvs : List (D × D)} : (Ow.dct kvs).isW = false := (rfl)
@[simp] theorem dctOwn_own {i : Nat} {S : Sto} {kvs : List (D × D)} (h : S[i]? = some (.own (.dct kvs))) : dctOwn S i = some kvs := by
  unfold dctOwn; rw [h]
@[simp] theorem isOwn_own {i : Nat} {S : Sto} {o : Ow} (h : S[i]? = some (.own o)) : isOwn S i = true := by
  unfold isOwn; rw [h]
@[simp] theorem isOwnL_own {i : Nat} {S : Sto} {o : Ow} (h : S[i]? = some (.own o)) : isOwnL S i = o.isLst := by
  unfold isOwnL; rw [h]
def _root_.Dv.Ow.isO (cls m : Str) : Ow → Bool
  | .obj k fs => decide (k = cls) && (fs.lookup m).isNone
  | _ => false
@[simp] theorem isO_obj {k cls m : Str} {fs : List (Str × D)} : (Ow.obj k fs).isO cls m = (decide (k = cls) && (fs.lookup m).isNone) := (rfl)
@[simp] theorem isObj_own {i : Nat} {S : Sto} {o : Ow} {cls m : Str} (h : S[i]? = some (.own o)) : isObj S i cls m = o.isO cls m := by
  unfold isObj Ow.isO
  rw [h]
  cases o <;> rfl
@[simp] theorem ev_fld {c : Cfg} {S : Sto} {cls f : Str} {i : Nat} : ev c (.fld cls i f) S = match S[i]? with
    | some (.own (.obj k fs)) => if k = cls then Res.of (fs.lookup f) S else .bad
    | _ => .bad := (rfl)
@[simp] theorem ex_setF {c : Cfg} {S : Sto} {cls f : Str} {i : Nat} {a : CE} : ex c (.setF cls i f a) S = (ev c a S).fl fun d S1 => match S1[i]? with
    | some (.own (.obj k fs)) => if k = cls ∧ fs.length < 900 then .nx (S1.set i (.own (.obj k (putD f d fs)))) else .bad
    | _ => .bad := (rfl)
@[simp] theorem bindG_name {c : Cfg} {i : Nat} {d : D} {S : Sto} : bindG c (.name i) d S = if c.io && i == 0 then none else some (S.set i (.fro d)) := (rfl)
@[simp] theorem bindG_nst {c : Cfg} {i : Nat} {is : List Nat} {a : D} {ds : List D} {S : Sto} : bindG c (.nst i is) (.tuple [a, .tuple ds]) S = if c.io && (i == 0 || is.contains 0) then none else if ds.length = is.length then setFro (S.set i (.fro a)) is ds else none := (rfl)
@[simp] theorem forB_def {c : Cfg} {t : CG} {b : CSs} {d : D} {S : Sto} : forB c t b d S = match bindG c t d S with
  | some S' => exs c b S'
  | none => .bad := (rfl)

/-! ### whole numbers -/
def zs (ns : List Int) : List D := ns.map .int
@[simp] theorem zs_len (ns : List Int) : (zs ns).length = ns.length := by simp [zs]
@[simp] theorem zs_nil : zs [] = [] := (rfl)
@[simp] theorem zs_cons (a : Int) (r : List Int) : zs (a :: r) = .int a :: zs r := (rfl)
@[simp] theorem zs_app (a b : List Int) : zs (a ++ b) = zs a ++ zs b := by simp [zs]
@[simp] theorem zs_get (ns : List Int) (i : Nat) : (zs ns)[i]? = (ns[i]?).map .int := by simp [zs]
theorem zs_take (ns : List Int) (k : Nat) : (zs ns).take k = zs (ns.take k) := by simp [zs]
theorem zs_drop (ns : List Int) (k : Nat) : (zs ns).drop k = zs (ns.drop k) := by simp [zs]
@[simp] theorem zs_elem (ns : List Int) (i : Nat) (h : i < (zs ns).length) : (zs ns)[i] = .int (ns[i]'(by simpa using h)) := by simp [zs]
@[simp] theorem rng_len (lo : Int) (n : Nat) : (rng lo n).length = n := by simp [rng]
@[simp] theorem rng_elem (lo : Int) (n i : Nat) (h : i < (rng lo n).length) : (rng lo n)[i] = .int (lo + (i : Int)) := by simp [rng]
def cellZ (ns : List Int) (k : Nat) : Int := if h : k < ns.length then ns[k] else 0
theorem pow18 : dPow (.int 10) (.int 18) = some (.int (10 ^ 18)) := by
  show (if CPow 10 18 then some (PyData.int (10 ^ (18 : Int).toNat)) else none) = _
  rw [if_pos (by unfold CPow; decide)]
  rfl
/-- what a draw gives -/
def Drawn (sizes ds : List Int) : Prop := ds.length = sizes.length ∧ ∀ i (h : i < ds.length) (h' : i < sizes.length), 0 ≤ ds[i] ∧ ds[i] < sizes[i]
theorem Drawn.snoc {sizes ds : List Int} {k : Nat} {x : Int} (hk : k < sizes.length) (h : Drawn (sizes.take k) ds) (h0 : 0 ≤ x) (h1 : x < sizes[k]) : Drawn (sizes.take (k + 1)) (ds ++ [x]) := by
  obtain ⟨a, b⟩ := h
  have a' : ds.length = k := by rw [a, List.length_take]; omega
  refine ⟨by simp [a']; omega, fun i h h' => ?_⟩
  rw [List.getElem_take]
  by_cases q : i < k
  · rw [List.getElem_append_left (by omega)]
    have := b i (by omega) (by simp; omega)
    rw [List.getElem_take] at this
    exact this
  · have : i = k := by simp at h; omega
    subst this
    rw [List.getElem_append_right (by omega)]
    simp [a', h0, h1]
theorem Drawn.nil {sizes : List Int} : Drawn (sizes.take 0) [] := ⟨by simp, fun i h => by simp at h⟩
theorem Drawn.full {sizes ds : List Int} {n : Nat} (e : n = sizes.length) (h : Drawn (sizes.take (0 + n)) ds) : Drawn sizes ds := by
  rw [e, Nat.zero_add, List.take_length] at h
  exact h
theorem fdiv_nn {a b : Int} (ha : 0 ≤ a) (hb : 0 < b) : 0 ≤ a.fdiv b := by
  rw [Int.fdiv_eq_ediv_of_nonneg _ (by omega)]
  exact Int.ediv_nonneg ha (by omega)
theorem fmod_rng {a b : Int} (hb : 0 < b) : 0 ≤ a.fmod b ∧ a.fmod b < b := ⟨Int.fmod_nonneg_of_pos _ hb, Int.fmod_lt_of_pos _ hb⟩
theorem div_int {i j : Int} (h : CDivN i j) : dDiv (.int i) (.int j) = some (.int (i.fdiv j)) := if_pos h
theorem mul_intD {i j : Int} (h : CMul i j) : dMul (.int i) (.int j) = some (.int (i * j)) := if_pos h
theorem r62 {i : Int} (h1 : -1000000 ≤ i) (h2 : i ≤ 1000000) : range62 i = true := by simp [range62]; omega

/-! ### loops over a mapped list -/
theorem forL_app {α γ : Type} {body : D → Sto → Fl} (e : α → D) (st : List D → γ → Sto) (h : α → List D) (B : Nat) : ∀ (xs : List α) (acc : List D) (j : γ), (acc ++ xs.flatMap h).length ≤ B →
    (∀ x ∈ xs, ∀ acc j, acc.length + (h x).length ≤ B → ∃ j', body (e x) (st acc j) = .nx (st (acc ++ h x) j') ∨ body (e x) (st acc j) = .ct (st (acc ++ h x) j')) → ∃ j', forL body (xs.map e) (st acc j) = .nx (st (acc ++ xs.flatMap h) j')
  | [], acc, j, _, _ => ⟨j, by simp [forL]⟩
  | x :: xs, acc, j, hz, step => by
    have hz' : acc.length + ((h x).length + (xs.flatMap h).length) ≤ B := by simpa [List.flatMap_cons, Nat.add_assoc] using hz
    obtain ⟨j1, h1⟩ := step x (by simp) acc j (by omega)
    obtain ⟨j2, h2⟩ := forL_app e st h B xs (acc ++ h x) j1 (by rw [List.length_append, List.length_append]; omega) fun y hy => step y (by simp [hy])
    refine ⟨j2, ?_⟩
    rw [List.map_cons]
    unfold forL
    rcases h1 with h1 | h1 <;> rw [h1] <;> simp only [List.flatMap_cons] <;> rw [← List.append_assoc] <;> exact h2
theorem lcL_mapA {α : Type} {vs : List Nat} {bind : D → Sto → Option Sto} {test : Sto → Res Bool} {elt : Sto → Res D} {S : Sto} (e : α → D) (p : α → Bool) (g : α → D) : ∀ (xs : List α) (acc : List D), acc.length + xs.length ≤ sizeLine →
    (∀ x ∈ xs, ∃ S1, bind (e x) S = some S1 ∧ test S1 = .ok (p x) S1 ∧ (p x = true → elt S1 = .ok (g x) S1) ∧ wipeS S1 vs = S) → lcL vs bind test elt (xs.map e) acc S = .ok (acc ++ (xs.filter p).map g) S
  | [], acc, _, _ => by simp [lcL]
  | d :: ds, acc, hz, h => by
    obtain ⟨S1, h1, h2, h3, h4⟩ := h d (by simp)
    have hz' : acc.length + ds.length + 1 ≤ sizeLine := by simpa [Nat.add_assoc] using hz
    rw [List.map_cons]
    unfold lcL
    rw [h1]
    simp only [h2, rb_ok]
    by_cases q : p d = true
    · rw [if_pos q, h3 q]
      simp only [rb_ok]
      rw [if_pos (by omega), h4, lcL_mapA e p g ds _ (by simp; omega) fun d hd => h d (by simp [hd])]
      simp [q]
    · rw [if_neg q, h4, lcL_mapA e p g ds _ (by omega) fun d hd => h d (by simp [hd])]
      simp [q]
theorem evF_lc {α : Type} {c : Cfg} {own : List (Str × Nat)} {t : CG} {it : CI} {cc : CTo} {elt : CE} {S S1 : Sto} (e : α → D) (p : α → Bool) (g : α → D) (xs : List α) (h1 : evI c it S = .ok (xs.map e) S1) (hu : unOwned S1 (own.map (·.2)) = true) (hio : c.io = false) (hz : xs.length ≤ sizeLine)
    (step : ∀ x ∈ xs, ∃ S2, bindG c t (e x) (wipeS S1 (own.map (·.2))) = some S2 ∧ evC c cc S2 = .ok (p x) S2 ∧ (p x = true → ev c elt S2 = .ok (g x) S2) ∧ wipeS S2 (own.map (·.2)) = wipeS S1 (own.map (·.2))) :
    evF c (.lc own t it cc elt) S = .ok (.lst ((xs.filter p).map g)) (backS S1 (wipeS S1 (own.map (·.2))) (own.map (·.2))) := by
  have u : evF c (.lc own t it cc elt) S = (evI c it S).bind fun ds S1 => if unOwned S1 (own.map (·.2)) && !(c.io && (own.map (·.2)).contains 0) then
      ((lcL (own.map (·.2)) (bindG c t) (evC c cc) (ev c elt) ds [] (wipeS S1 (own.map (·.2)))).onX fun S2 => backS S1 (wipeS S2 (own.map (·.2))) (own.map (·.2))).bind fun ys S2 => .ok (.lst ys) (backS S1 S2 (own.map (·.2)))
    else .bad := rfl
  rw [u, h1, rb_ok, hu, hio, if_pos (show (true && !(false && (own.map (·.2)).contains 0)) = true from rfl), lcL_mapA e p g xs [] (by simpa using hz) step]
  rfl
theorem lc2L_map {α β : Type} {vs vs1 : List Nat} {bind : D → Sto → Option Sto} {it1 : Sto → Res (List D)} {b1 : D → Sto → Option Sto} {elt : Sto → Res D} {S : Sto} (e : α → D) (e1 : β → D) (ys : α → List β) (g : α → β → D) : ∀ (xs : List α) (acc : List D), acc.length + (xs.flatMap ys).length ≤ sizeLine →
    (∀ x ∈ xs, ∃ S1 S2, bind (e x) S = some S1 ∧ it1 S1 = .ok ((ys x).map e1) S2 ∧ (∀ y ∈ ys x, ∃ S3, b1 (e1 y) (wipeS S2 vs1) = some S3 ∧ elt S3 = .ok (g x y) S3 ∧ wipeS S3 vs1 = wipeS S2 vs1) ∧ wipeS (wipeS S2 vs1) vs = S) →
    lc2L vs vs1 bind it1 b1 elt (xs.map e) acc S = .ok (acc ++ xs.flatMap fun x => (ys x).map (g x)) S
  | [], acc, _, _ => by simp [lc2L]
  | x :: xs, acc, hz, h => by
    obtain ⟨S1, S2, h1, h2, h3, h4⟩ := h x (by simp)
    rw [List.flatMap_cons, List.length_append] at hz
    rw [List.map_cons]
    unfold lc2L
    rw [h1]
    simp only [h2, rb_ok]
    rw [lcL_mapA e1 (fun _ => true) (g x) (ys x) acc (by omega) fun y hy => let ⟨S3, k1, k2, k3⟩ := h3 y hy; ⟨S3, k1, rfl, fun _ => k2, k3⟩]
    simp only [rb_ok, h4]
    have ft : (ys x).filter (fun _ => true) = ys x := List.filter_eq_self.mpr fun _ _ => rfl
    rw [ft, lc2L_map e e1 ys g xs _ (by rw [List.length_append, List.length_map]; omega) fun d hd => h d (by simp [hd])]
    simp
theorem evF_lc2 {α β : Type} {c : Cfg} {own : List (Str × Nat)} {t t1 : CG} {it it1 : CI} {elt : CE} {S S1 : Sto} (e : α → D) (e1 : β → D) (ys : α → List β) (g : α → β → D) (xs : List α) (h1 : evI c it S = .ok (xs.map e) S1) (hu : unOwned S1 (own.map (·.2)) = true) (hio : c.io = false) (hz : (xs.flatMap ys).length ≤ sizeLine)
    (step : ∀ x ∈ xs, ∃ S2 S3, bindG c t (e x) (wipeS S1 (own.map (·.2))) = some S2 ∧ evI c it1 S2 = .ok ((ys x).map e1) S3 ∧ (∀ y ∈ ys x, ∃ S4, bindG c t1 (e1 y) (wipeS S3 t1.slots) = some S4 ∧ ev c elt S4 = .ok (g x y) S4 ∧ wipeS S4 t1.slots = wipeS S3 t1.slots) ∧ wipeS (wipeS S3 t1.slots) (own.map (·.2)) = wipeS S1 (own.map (·.2))) :
    evF c (.lc2 own t it t1 it1 elt) S = .ok (.lst (xs.flatMap fun x => (ys x).map (g x))) (backS S1 (wipeS S1 (own.map (·.2))) (own.map (·.2))) := by
  have u : evF c (.lc2 own t it t1 it1 elt) S = (evI c it S).bind fun ds S1 => if unOwned S1 (own.map (·.2)) && !(c.io && (own.map (·.2)).contains 0) then
      ((lc2L (own.map (·.2)) t1.slots (bindG c t) (evI c it1) (bindG c t1) (ev c elt) ds [] (wipeS S1 (own.map (·.2)))).quiet).bind fun ys S2 => .ok (.lst ys) (backS S1 S2 (own.map (·.2)))
    else .bad := rfl
  rw [u, h1, rb_ok, hu, hio, if_pos (show (true && !(false && (own.map (·.2)).contains 0)) = true from rfl), lc2L_map e e1 ys g xs [] (by simpa using hz) step]
  rfl
theorem evF_lcD {α : Type} {c : Cfg} {own : List (Str × Nat)} {i : Nat} {t : CG} {cc : CTo} {elt : CE} {S S1 : Sto} {kvs : List (D × D)} (hS : S[i]? = some (.own (.dct kvs))) (e1 : S1 = S.set i (.own (.dctw kvs))) (e : α → D) (p : α → Bool) (g : α → D) (xs : List α) (hk : kvs.map (·.1) = xs.map e) (hu : unOwned S1 (own.map (·.2)) = true) (hio : (c.io && (own.map (·.2)).contains 0) = false) (hz : xs.length ≤ sizeLine)
    (step : ∀ x ∈ xs, ∃ S2, bindG c t (e x) (wipeS S1 (own.map (·.2))) = some S2 ∧ evC c cc S2 = .ok (p x) S2 ∧ (p x = true → ev c elt S2 = .ok (g x) S2) ∧ wipeS S2 (own.map (·.2)) = wipeS S1 (own.map (·.2))) :
    evF c (.lcD own i t cc elt) S = unwalk i (backS S1 (wipeS S1 (own.map (·.2))) (own.map (·.2))) ((xs.filter p).map g) := by
  have u : evF c (.lcD own i t cc elt) S = lcDR c.io i (·.1) (own.map (·.2)) (bindG c t) (evC c cc) (ev c elt) S := rfl
  rw [u]
  unfold lcDR
  rw [hS]
  dsimp only
  rw [← e1, hu, hio, if_pos (show (true && !false) = true from rfl), hk, lcL_mapA e p g xs [] (by simpa using hz) step]
  rfl
theorem evF_lcP {α : Type} {c : Cfg} {own : List (Str × Nat)} {i : Nat} {t : CG} {cc : CTo} {elt : CE} {S S1 : Sto} {kvs : List (D × D)} (hS : S[i]? = some (.own (.dct kvs))) (e1 : S1 = S.set i (.own (.dctw kvs))) (e : α → D) (p : α → Bool) (g : α → D) (xs : List α) (hk : kvs.map (fun q => PyData.tuple [q.1, q.2]) = xs.map e) (hu : unOwned S1 (own.map (·.2)) = true) (hio : (c.io && (own.map (·.2)).contains 0) = false) (hz : xs.length ≤ sizeLine)
    (step : ∀ x ∈ xs, ∃ S2, bindG c t (e x) (wipeS S1 (own.map (·.2))) = some S2 ∧ evC c cc S2 = .ok (p x) S2 ∧ (p x = true → ev c elt S2 = .ok (g x) S2) ∧ wipeS S2 (own.map (·.2)) = wipeS S1 (own.map (·.2))) :
    evF c (.lcP own i t cc elt) S = unwalk i (backS S1 (wipeS S1 (own.map (·.2))) (own.map (·.2))) ((xs.filter p).map g) := by
  have u : evF c (.lcP own i t cc elt) S = lcDR c.io i (fun q => .tuple [q.1, q.2]) (own.map (·.2)) (bindG c t) (evC c cc) (ev c elt) S := rfl
  rw [u]
  unfold lcDR
  rw [hS]
  dsimp only
  rw [← e1, hu, hio, if_pos (show (true && !false) = true from rfl), hk, lcL_mapA e p g xs [] (by simpa using hz) step]
  rfl
@[simp] theorem unwalk_at {i : Nat} {S : Sto} {kvs : List (D × D)} {ys : List D} (h : S[i]? = some (.own (.dctw kvs))) : unwalk i S ys = .ok (.lst ys) (S.set i (.own (.dct kvs))) := by
  unfold unwalk; rw [h]
theorem rng_map (n : Nat) : rng 0 n = (List.range n).map fun (k : Nat) => PyData.int (k : Int) := by
  simp [rng]
theorem zs_map (ns : List Int) : zs ns = ns.map PyData.int := rfl
@[simp] theorem wipe_nil {S : Sto} : wipeS S [] = S := (rfl)
@[simp] theorem wipe_cons {S : Sto} {v : Nat} {vs : List Nat} : wipeS S (v :: vs) = (wipeS S vs).set v .no := (rfl)
@[simp] theorem back_nil {S S' : Sto} : backS S S' [] = S' := (rfl)
@[simp] theorem back_cons {S S' : Sto} {v : Nat} {vs : List Nat} : backS S S' (v :: vs) = (backS S S' vs).set v (S.getD v .no) := (rfl)
@[simp] theorem unOwned_def {S : Sto} {vs : List Nat} : unOwned S vs = vs.all fun v => match S[v]? with
  | some (.own _) => false
  | _ => true := (rfl)
/-- a tuple of whole numbers -/
def tu (row : List Int) : D := .tuple (zs row)
theorem small {n : Nat} (h : n ≤ 1000000) : n ≤ sizeLine := Nat.le_trans h (by decide)
theorem small' {n : Nat} (h : n ≤ 1000000) : n < sizeLine := Nat.lt_of_le_of_lt h (by decide)
@[simp] theorem filter_tt {α : Type} (xs : List α) : xs.filter (fun _ => true) = xs := List.filter_eq_self.mpr fun _ _ => rfl
theorem forL_go {body : D → Sto → Fl} {d : D} {ds : List D} {S S' : Sto} (h : body d S = .nx S') : forL body (d :: ds) S = forL body ds S' := by
  rw [forL, h]
@[simp] theorem forL_nil {body : D → Sto → Fl} {S : Sto} : forL body [] S = .nx S := by rw [forL]
@[simp] theorem sz1 : 1 ≤ sizeLine := by decide
@[simp] theorem sy1 : 1 < sizeLine := by decide
@[simp] theorem sz2 : 2 ≤ sizeLine := by decide
@[simp] theorem sy2 : 2 < sizeLine := by decide
@[simp] theorem sz3 : 3 ≤ sizeLine := by decide
@[simp] theorem sy3 : 3 < sizeLine := by decide
@[simp] theorem sz4 : 4 ≤ sizeLine := by decide
@[simp] theorem sy4 : 4 < sizeLine := by decide
@[simp] theorem sz5 : 5 ≤ sizeLine := by decide
@[simp] theorem sy5 : 5 < sizeLine := by decide
@[simp] theorem sz6 : 6 ≤ sizeLine := by decide
@[simp] theorem sy6 : 6 < sizeLine := by decide
@[simp] theorem sz7 : 7 ≤ sizeLine := by decide
@[simp] theorem sy7 : 7 < sizeLine := by decide
@[simp] theorem sz8 : 8 ≤ sizeLine := by decide
@[simp] theorem sy8 : 8 < sizeLine := by decide
@[simp] theorem sz9 : 9 ≤ sizeLine := by decide
@[simp] theorem sy9 : 9 < sizeLine := by decide
@[simp] theorem sz10 : 10 ≤ sizeLine := by decide
@[simp] theorem sy10 : 10 < sizeLine := by decide
@[simp] theorem sz11 : 11 ≤ sizeLine := by decide
@[simp] theorem sy11 : 11 < sizeLine := by decide
@[simp] theorem sz12 : 12 ≤ sizeLine := by decide
@[simp] theorem sy12 : 12 < sizeLine := by decide
@[simp] theorem sz13 : 13 ≤ sizeLine := by decide
@[simp] theorem sy13 : 13 < sizeLine := by decide
@[simp] theorem sz14 : 14 ≤ sizeLine := by decide
@[simp] theorem sy14 : 14 < sizeLine := by decide
@[simp] theorem sz15 : 15 ≤ sizeLine := by decide
@[simp] theorem sy15 : 15 < sizeLine := by decide
@[simp] theorem sz16 : 16 ≤ sizeLine := by decide
@[simp] theorem sy16 : 16 < sizeLine := by decide
@[simp] theorem sz17 : 17 ≤ sizeLine := by decide
@[simp] theorem sy17 : 17 < sizeLine := by decide
@[simp] theorem sz18 : 18 ≤ sizeLine := by decide
@[simp] theorem sy18 : 18 < sizeLine := by decide
@[simp] theorem sz19 : 19 ≤ sizeLine := by decide
@[simp] theorem sy19 : 19 < sizeLine := by decide
@[simp] theorem sz20 : 20 ≤ sizeLine := by decide
@[simp] theorem sy20 : 20 < sizeLine := by decide
@[simp] theorem sy0 : 0 < sizeLine := by decide
@[simp] theorem ex_setD {c : Cfg} {S : Sto} {i : Nat} {k a : CE} : ex c (.setD i k a) S = (ev c a S).fl fun d S1 => if (dctAt S1 i).isSome then (ev c k S1).fl fun kk S2 => match dctOwn S2 i with
    | some kvs => if keyOk kvs kk = true ∧ kvs.length < sizeLine then .nx (S2.set i (.own (.dct (putKV kvs kk d)))) else .bad
    | none => .bad
    else .bad := (rfl)
@[simp] theorem ex_setI {c : Cfg} {S : Sto} {i : Nat} {k a : CE} : ex c (.setI i k a) S = (ev c a S).fl fun d S1 => if !(isOwnL S1 i) then .bad else (ev c k S1).fl fun kk S2 => match S2[i]?, kk with
    | some (.own (.lst ds)), .int j => match setAt ds j d with
      | some ds' => .nx (S2.set i (.own (.lst ds')))
      | none => .bad
    | _, _ => .bad := (rfl)
theorem endR_io {d : D} {S : Sto} {o : Ow} (h : S[(0 : Nat)]? = some (.own o)) : endR .io (.rt d S) = .ok d (some o) := by
  show (match S[(0 : Nat)]? with
    | some (.own o) => FR.ok d (some o)
    | _ => .bad) = _
  rw [h]
theorem RF_tr {d : Def} {ds : List D} (h : lookupDef T f = some d) (hk : d.kd = .tr) (hl : ds.length = d.ps.length) : RF con T (n + 1) f none ds = endR .tr (exs (cfg con T n false) d.body (ds.map .fro ++ List.replicate (d.N.length - ds.length) .no)) := by
  rw [RF_succ h]
  unfold runBody
  rw [if_pos (by unfold fitR; rw [hk]; simp [Kd.isIo, hl])]
  rw [hk]
  simp [begS, Kd.isIo]
theorem ex_unp3 {i j k : Nat} (hn : 0 < n) : ex (cfg con T n io) (.unp3 i j k f es) S = ((evs (cfg con T n io) es S).bind fun ds S1 => match RF con T n f none ds with
    | .okT a b o => Res.ok (a, b, o) S1
    | .exc x => .exc x S1
    | _ => .bad).fl fun t S1 => if io then .bad else .nx (((S1.set i (.fro t.1)).set j (.fro t.2.1)).set k (.own t.2.2)) := by
  have e : ex (cfg con T n io) (.unp3 i j k f es) S = (if (runs con T n).isEmpty then .bad else (evs (cfg con T n io) es S).bind fun ds S1 => callTR (cfg con T n io) f ds S1).fl fun t S1 => if io then .bad else .nx (((S1.set i (.fro t.1)).set j (.fro t.2.1)).set k (.own t.2.2)) := rfl
  rw [e, runs_ne hn]
  cases n with
  | zero => omega
  | succ n => rfl
@[simp] theorem endR_tr {a b : D} {o : Ow} {S : Sto} : endR .tr (.rtT a b o S) = .okT a b o := (rfl)
@[simp] theorem endR_fr {o : Ow} {S : Sto} : endR .fr (.rtF o S) = .okF o := (rfl)
/-- the law's box: what was drawn, and how much of it is taken -/
def bx (ds : List Int) (k : Nat) : Ow := .lst [.list (zs ds), .int k]
@[simp] theorem isW_bx {ds : List Int} {k : Nat} : (bx ds k).isW = false := (rfl)
@[simp] theorem isLst_bx {ds : List Int} {k : Nat} : (bx ds k).isLst = true := (rfl)
def takeZ (ds : List Int) (k : Nat) (m : Int) : Int := if h : k < ds.length then ds[k].fmod m else 0
theorem takeZ_rng (ds : List Int) (k : Nat) {m : Int} (hm : 0 < m) : 0 ≤ takeZ ds k m ∧ takeZ ds k m < m := by
  unfold takeZ
  split
  · exact fmod_rng hm
  · exact ⟨Int.le_refl 0, hm⟩
theorem at0 {α : Type} {a : α} {r : List α} : atI (a :: r) 0 = some a := Dv.atI_natD (k := 0)
theorem at1 {α : Type} {a b : α} {r : List α} : atI (a :: b :: r) 1 = some b := Dv.atI_natD (k := 1)
theorem set1 {α : Type} {a b d : α} : setAt [a, b] 1 d = some [a, d] := (rfl)
/-- a comprehension whose turns change the store -/
theorem lcL_st {α : Type} {vs : List Nat} {bind : D → Sto → Option Sto} {test : Sto → Res Bool} {elt : Sto → Res D} (e : α → D) (I : Sto → Prop) (P : D → Prop) : ∀ (xs : List α) (acc : List D) (S : Sto), acc.length + xs.length ≤ sizeLine → I S →
    (∀ x ∈ xs, ∀ S, I S → ∃ S1 S2 y, bind (e x) S = some S1 ∧ test S1 = .ok true S1 ∧ elt S1 = .ok y S2 ∧ I (wipeS S2 vs) ∧ P y) →
    ∃ ys S', lcL vs bind test elt (xs.map e) acc S = .ok (acc ++ ys) S' ∧ I S' ∧ ys.length = xs.length ∧ ∀ y ∈ ys, P y
  | [], acc, S, _, i, _ => ⟨[], S, by simp [lcL], i, rfl, by simp⟩
  | x :: xs, acc, S, hz, i, step => by
    obtain ⟨S1, S2, y, h1, h2, h3, h4, h5⟩ := step x (by simp) S i
    have hz' : acc.length + xs.length + 1 ≤ sizeLine := by simpa [Nat.add_assoc] using hz
    obtain ⟨ys, S', r, i', l, p⟩ := lcL_st e I P xs (acc ++ [y]) (wipeS S2 vs) (by simp; omega) h4 fun z hz => step z (by simp [hz])
    refine ⟨y :: ys, S', ?_, i', by simp [l], fun z hz => ?_⟩
    · rw [List.map_cons, lcL, h1]
      simp only [h2, rb_ok, h3, if_pos]
      rw [if_pos (by omega), r, List.append_assoc]
      rfl
    · rcases List.mem_cons.mp hz with q | q
      · rw [q]; exact h5
      · exact p z q
theorem evF_lcS {α : Type} {c : Cfg} {own : List (Str × Nat)} {t : CG} {it : CI} {cc : CTo} {elt : CE} {S S1 : Sto} (e : α → D) (I : Sto → Prop) (P : D → Prop) (xs : List α) (h1 : evI c it S = .ok (xs.map e) S1) (hu : unOwned S1 (own.map (·.2)) = true)
    (hio : (c.io && (own.map (·.2)).contains 0) = false) (hz : xs.length ≤ sizeLine) (i0 : I (wipeS S1 (own.map (·.2))))
    (step : ∀ x ∈ xs, ∀ S, I S → ∃ S2 S3 y, bindG c t (e x) S = some S2 ∧ evC c cc S2 = .ok true S2 ∧ ev c elt S2 = .ok y S3 ∧ I (wipeS S3 (own.map (·.2))) ∧ P y) :
    ∃ ys S', evF c (.lc own t it cc elt) S = .ok (.lst ys) (backS S1 S' (own.map (·.2))) ∧ I S' ∧ ys.length = xs.length ∧ ∀ y ∈ ys, P y := by
  obtain ⟨ys, S', r, i, l, p⟩ := lcL_st e I P xs [] _ (by simpa using hz) i0 step
  refine ⟨ys, S', ?_, i, l, p⟩
  have u : evF c (.lc own t it cc elt) S = (evI c it S).bind fun ds S1 => if unOwned S1 (own.map (·.2)) && !(c.io && (own.map (·.2)).contains 0) then
      ((lcL (own.map (·.2)) (bindG c t) (evC c cc) (ev c elt) ds [] (wipeS S1 (own.map (·.2)))).onX fun S2 => backS S1 (wipeS S2 (own.map (·.2))) (own.map (·.2))).bind fun ys S2 => .ok (.lst ys) (backS S1 S2 (own.map (·.2)))
    else .bad := rfl
  rw [u, h1, rb_ok, hu, hio, if_pos (show (true && !false) = true from rfl), r]
  rfl
end Dv

namespace Dv
open PySem PySem.Spec L2
@[simp] theorem ofString_inj {a b : String} : Str.ofString a = Str.ofString b ↔ a = b := by
  constructor
  · intro h
    rw [Str.ofString_eq_toList, Str.ofString_eq_toList] at h
    have h2 : a.toList.map Char.toNat = b.toList.map Char.toNat := by
      have := congrArg (fun z : Str => z.cps.toList) h
      simpa using this
    have h3 : a.toList = b.toList := (List.map_inj_right (f := Char.toNat) (fun x y e => Char.ext (UInt32.toNat_inj.mp e))).mp h2
    exact String.toList_inj.mp h3
  · intro h
    rw [h]
@[simp] theorem lk_cons {α : Type} {f g : Str} {x : α} {r : List (Str × α)} : List.lookup f ((g, x) :: r) = if f = g then some x else List.lookup f r := by
  rw [List.lookup_cons]
  by_cases h : f = g
  · rw [if_pos h, beq_iff_eq.mpr h]
  · rw [if_neg h, beq_eq_false_iff_ne.mpr h]
@[simp] theorem lk_nil {α : Type} {f : Str} : List.lookup f ([] : List (Str × α)) = none := (rfl)
@[simp] theorem ex_unpackE {c : Cfg} {is : List Nat} {a : CE} {S : Sto} : ex c (.unpack is a) S = (ev c a S).fl fun d S1 => match bindG c (.tup is) d S1 with
    | some S2 => .nx S2
    | none => .bad := (rfl)
@[simp] theorem bindG_t3 {con : Str → Option D} {T : List Def} {n i j k : Nat} {a b d : D} {S : Sto} : bindG (cfg con T n false) (.tup [i, j, k]) (.tuple [a, b, d]) S = some (((S.set i (.fro a)).set j (.fro b)).set k (.fro d)) := (rfl)
@[simp] theorem bindG_t2 {con : Str → Option D} {T : List Def} {n i j : Nat} {a b : D} {S : Sto} : bindG (cfg con T n false) (.tup [i, j]) (.tuple [a, b]) S = some ((S.set i (.fro a)).set j (.fro b)) := (rfl)
theorem dep_str {z : Str} : (PyData.str z).depth = 0 := by simp [PyData.depth]
@[simp] theorem eq_str {a b : Str} : dEq (.str a) (.str b) = some (.bool (decide (a = b))) := by
  simp [dEq, PyData.eqv, dep_str]
  rfl
@[simp] theorem ne_str {a b : Str} : dNe (.str a) (.str b) = some (.bool (decide (a ≠ b))) := by
  simp [dNe, PyData.eqv, dep_str]
  rfl
@[simp] theorem eq_ts {xs : List D} {b : Str} : dEq (.tuple xs) (.str b) = some (.bool false) := by simp [dEq, PyData.eqv, dep_str]
@[simp] theorem ne_ts {xs : List D} {b : Str} : dNe (.tuple xs) (.str b) = some (.bool true) := by simp [dNe, PyData.eqv, dep_str]
@[simp] theorem eq_st {xs : List D} {b : Str} : dEq (.str b) (.tuple xs) = some (.bool false) := by simp [dEq, PyData.eqv, dep_str]
@[simp] theorem eq_bool {a b : Bool} : dEq (.bool a) (.bool b) = some (.bool (a == b)) := by simp [dEq, PyData.eqv, PyData.depth]
@[simp] theorem ne_bool {a b : Bool} : dNe (.bool a) (.bool b) = some (.bool (!(a == b))) := by simp [dNe, PyData.eqv, PyData.depth]
@[simp] theorem isi_ii {i : Int} : dIsi (.int i) "int" = some (.bool true) := (rfl)
@[simp] theorem isi_ib {i : Int} : dIsi (.int i) "bool" = some (.bool false) := (rfl)
@[simp] theorem isi_is {i : Int} : dIsi (.int i) "str" = some (.bool false) := (rfl)
@[simp] theorem isi_it {i : Int} : dIsi (.int i) "tuple" = some (.bool false) := (rfl)
@[simp] theorem isi_bb {i : Bool} : dIsi (.bool i) "bool" = some (.bool true) := (rfl)
@[simp] theorem isi_si {i : Str} : dIsi (.str i) "int" = some (.bool false) := (rfl)
@[simp] theorem isi_sb {i : Str} : dIsi (.str i) "bool" = some (.bool false) := (rfl)
@[simp] theorem isi_ss {i : Str} : dIsi (.str i) "str" = some (.bool true) := (rfl)
@[simp] theorem isi_st {i : Str} : dIsi (.str i) "tuple" = some (.bool false) := (rfl)
@[simp] theorem isi_ti {i : List D} : dIsi (.tuple i) "int" = some (.bool false) := (rfl)
@[simp] theorem isi_tb {i : List D} : dIsi (.tuple i) "bool" = some (.bool false) := (rfl)
@[simp] theorem isi_ts {i : List D} : dIsi (.tuple i) "str" = some (.bool false) := (rfl)
@[simp] theorem isi_tt {i : List D} : dIsi (.tuple i) "tuple" = some (.bool true) := (rfl)
@[simp] theorem len_str {z : Str} : dLen (.str z) = if z.length ≤ sizeLine then some (.int z.length) else none := (rfl)
@[simp] theorem in_str {a b : Str} : dIn (.str a) (.str b) = some (.bool (inStr a b)) := (rfl)
@[simp] theorem nin_str {a b : Str} : dNotIn (.str a) (.str b) = some (.bool (!inStr a b)) := (rfl)
@[simp] theorem inb_str {a b : Str} {n : Bool} : dInB n (.str a) (.str b) = some (if n then !inStr a b else inStr a b) := (rfl)
@[simp] theorem eqv_str {a b : Str} : PyData.eqv (.str a) (.str b) = decide (a = b) := by
  simp [PyData.eqv]; rfl
@[simp] theorem in_tup {a : Str} {xs : List D} : dIn (.str a) (.tuple xs) = some (.bool (xs.any fun y => PyData.eqv y (.str a))) := by
  show ((if min (PyData.depthAll xs) (PyData.str a).depth ≤ 60 then _ else _) : Option Bool).map PyData.bool = _
  rw [if_pos (by rw [dep_str]; omega)]
  rfl
@[simp] theorem in_lst {a : Str} {xs : List D} : dIn (.str a) (.list xs) = some (.bool (xs.any fun y => PyData.eqv y (.str a))) := by
  show ((if min (PyData.depthAll xs) (PyData.str a).depth ≤ 60 then _ else _) : Option Bool).map PyData.bool = _
  rw [if_pos (by rw [dep_str]; omega)]
  rfl
@[simp] theorem nin_tup {a : Str} {xs : List D} : dNotIn (.str a) (.tuple xs) = some (.bool (!(xs.any fun y => PyData.eqv y (.str a)))) := by
  show ((if min (PyData.depthAll xs) (PyData.str a).depth ≤ 60 then _ else _) : Option Bool).map PyData.bool = _
  rw [if_pos (by rw [dep_str]; omega)]
  rfl
@[simp] theorem nin_lst {a : Str} {xs : List D} : dNotIn (.str a) (.list xs) = some (.bool (!(xs.any fun y => PyData.eqv y (.str a)))) := by
  show ((if min (PyData.depthAll xs) (PyData.str a).depth ≤ 60 then _ else _) : Option Bool).map PyData.bool = _
  rw [if_pos (by rw [dep_str]; omega)]
  rfl
@[simp] theorem rb_bad {α β : Type} {g : α → Sto → Res β} : (Res.bad : Res α).bind g = .bad := (rfl)
@[simp] theorem rf_bad {α : Type} {g : α → Sto → Fl} : (Res.bad : Res α).fl g = .bad := (rfl)
@[simp] theorem ft_bad {g : Sto → Fl} : Fl.bad.then g = .bad := (rfl)
@[simp] theorem quiet_ok {α : Type} {x : α} {S : Sto} : (Res.ok x S).quiet = .ok x S := (rfl)
/-- is a list empty -/
theorem depL {xs : List D} : dEq (.list xs) (.list []) = some (.bool (xs.isEmpty)) := by
  have h : (PyData.list []).depth = 1 := by simp [PyData.depth, PyData.depthAll]
  have h2 : min (PyData.list xs).depth (PyData.list []).depth ≤ 60 := by rw [h]; exact Nat.le_trans (Nat.min_le_right _ _) (by decide)
  rw [dEq, if_pos h2]
  cases xs <;> simp [PyData.eqv, PyData.eqvAll]
def qB {α : Type} (stp : Bool) (xs : List α) (p : α → Bool) : Bool := if stp then xs.any p else xs.all p
@[simp] theorem qB_f {α : Type} {xs : List α} {p : α → Bool} : qB false xs p = xs.all p := rfl
@[simp] theorem qB_t {α : Type} {xs : List α} {p : α → Bool} : qB true xs p = xs.any p := rfl
theorem qntL_map {α : Type} {vs : List Nat} {bind : D → Sto → Option Sto} {test : Sto → Res Bool} {elt : Sto → Res D} {S : Sto} (e : α → D) (p : α → Bool) (stp : Bool) : ∀ (xs : List α),
    (∀ x ∈ xs, ∃ S1, bind (e x) S = some S1 ∧ test S1 = .ok true S1 ∧ elt S1 = .ok (.bool (p x)) S1 ∧ wipeS S1 vs = S) → qntL vs bind test elt stp (xs.map e) S = .ok (qB stp xs p) S
  | [], h => by cases stp <;> simp [qntL, qB]
  | x :: xs, h => by
    obtain ⟨S1, h1, h2, h3, h4⟩ := h x (by simp)
    have ih := qntL_map e p stp xs fun y hy => h y (by simp [hy])
    rw [List.map_cons]
    unfold qntL
    rw [h1]
    simp only [h2, rb_ok, h3, if_pos, asBool_b, h4, ih]
    cases stp <;> cases q : p x <;> simp [q, qB]
theorem ev_qnt {α : Type} {c : Cfg} {own : List (Str × Nat)} {t : CG} {it : CI} {elt : CE} {S S1 : Sto} {stp : Bool} (e : α → D) (p : α → Bool) (xs : List α) (h1 : evI c it S = .ok (xs.map e) S1) (hu : unOwned S1 (own.map (·.2)) = true) (hio : c.io = false)
    (step : ∀ x ∈ xs, ∃ S2, bindG c t (e x) (wipeS S1 (own.map (·.2))) = some S2 ∧ ev c elt S2 = .ok (.bool (p x)) S2 ∧ wipeS S2 (own.map (·.2)) = wipeS S1 (own.map (·.2))) :
    ev c (.qnt stp own t it .none elt) S = .ok (.bool (qB stp xs p)) (backS S1 (wipeS S1 (own.map (·.2))) (own.map (·.2))) := by
  have u : ev c (.qnt stp own t it .none elt) S = (evI c it S).bind fun ds S1 => if unOwned S1 (own.map (·.2)) && !(c.io && (own.map (·.2)).contains 0) then
      ((qntL (own.map (·.2)) (bindG c t) (evC c .none) (ev c elt) stp ds (wipeS S1 (own.map (·.2)))).quiet).bind fun k S2 => .ok (.bool k) (backS S1 S2 (own.map (·.2)))
    else .bad := rfl
  rw [u, h1, rb_ok, hu, hio, if_pos (show (true && !(false && (own.map (·.2)).contains 0)) = true from rfl), qntL_map e p stp xs fun x hx => ?_]
  · rfl
  · obtain ⟨S2, a, b, d⟩ := step x hx
    exact ⟨S2, a, rfl, b, d⟩
theorem lcL_st2 {α : Type} {vs : List Nat} {bind : D → Sto → Option Sto} {test : Sto → Res Bool} {elt : Sto → Res D} (e : α → D) (I : Sto → Prop) (P : α → D → Prop) : ∀ (xs : List α) (acc : List D) (S : Sto), acc.length + xs.length ≤ sizeLine → I S →
    (∀ x ∈ xs, ∀ S, I S → ∃ S1 S2 y, bind (e x) S = some S1 ∧ test S1 = .ok true S1 ∧ elt S1 = .ok y S2 ∧ I (wipeS S2 vs) ∧ P x y) →
    ∃ ys S', lcL vs bind test elt (xs.map e) acc S = .ok (acc ++ ys) S' ∧ I S' ∧ ys.length = xs.length ∧ ∀ (i : Nat) (x : α) (y : D), xs[i]? = some x → ys[i]? = some y → P x y
  | [], acc, S, _, i, _ => ⟨[], S, by simp [lcL], i, rfl, fun i x y h => by simp at h⟩
  | x :: xs, acc, S, hz, i, step => by
    obtain ⟨S1, S2, y, h1, h2, h3, h4, h5⟩ := step x (by simp) S i
    have hz' : acc.length + xs.length + 1 ≤ sizeLine := by simpa [Nat.add_assoc] using hz
    obtain ⟨ys, S', r, i', l, p⟩ := lcL_st2 e I P xs (acc ++ [y]) (wipeS S2 vs) (by simp; omega) h4 fun z hz => step z (by simp [hz])
    refine ⟨y :: ys, S', ?_, i', by simp [l], fun i z w hz hw => ?_⟩
    · rw [List.map_cons, lcL, h1]
      simp only [h2, rb_ok, h3, if_pos]
      rw [if_pos (by omega), r, List.append_assoc]
      rfl
    · cases i with
      | zero =>
        simp at hz hw
        rw [← hz, ← hw]
        exact h5
      | succ i => exact p i z w (by simpa using hz) (by simpa using hw)
theorem evF_lcS2 {α : Type} {c : Cfg} {own : List (Str × Nat)} {t : CG} {it : CI} {cc : CTo} {elt : CE} {S S1 : Sto} (e : α → D) (I : Sto → Prop) (P : α → D → Prop) (xs : List α) (h1 : evI c it S = .ok (xs.map e) S1) (hu : unOwned S1 (own.map (·.2)) = true)
    (hio : (c.io && (own.map (·.2)).contains 0) = false) (hz : xs.length ≤ sizeLine) (i0 : I (wipeS S1 (own.map (·.2))))
    (step : ∀ x ∈ xs, ∀ S, I S → ∃ S2 S3 y, bindG c t (e x) S = some S2 ∧ evC c cc S2 = .ok true S2 ∧ ev c elt S2 = .ok y S3 ∧ I (wipeS S3 (own.map (·.2))) ∧ P x y) :
    ∃ ys S', evF c (.lc own t it cc elt) S = .ok (.lst ys) (backS S1 S' (own.map (·.2))) ∧ I S' ∧ ys.length = xs.length ∧ ∀ (i : Nat) (x : α) (y : D), xs[i]? = some x → ys[i]? = some y → P x y := by
  obtain ⟨ys, S', r, i, l, p⟩ := lcL_st2 e I P xs [] _ (by simpa using hz) i0 step
  refine ⟨ys, S', ?_, i, l, p⟩
  have u : evF c (.lc own t it cc elt) S = (evI c it S).bind fun ds S1 => if unOwned S1 (own.map (·.2)) && !(c.io && (own.map (·.2)).contains 0) then
      ((lcL (own.map (·.2)) (bindG c t) (evC c cc) (ev c elt) ds [] (wipeS S1 (own.map (·.2)))).onX fun S2 => backS S1 (wipeS S2 (own.map (·.2))) (own.map (·.2))).bind fun ys S2 => .ok (.lst ys) (backS S1 S2 (own.map (·.2)))
    else .bad := rfl
  rw [u, h1, rb_ok, hu, hio, if_pos (show (true && !false) = true from rfl), r]
  rfl
theorem empF {α β : Type} (f : α → Bool) (g : α → β) (xs : List α) : ((xs.filter fun x => !f x).map g).isEmpty = xs.all f := by
  induction xs with
  | nil => rfl
  | cons x r ih =>
    cases q : f x
    · simp [q]
    · simpa [q] using ih
theorem rng_getD {α : Type} (xs : List α) (d : α) : (List.range xs.length).map (fun i => (xs[i]?).getD d) = xs := by
  apply List.ext_getElem
  · simp
  · intro i h1 h2
    simp only [List.getElem_map, List.getElem_range]
    rw [List.getElem?_eq_getElem h2]
    rfl
theorem all_rng {α : Type} (xs : List α) (d : α) (p : α → Bool) : (List.range xs.length).all (fun i => p ((xs[i]?).getD d)) = xs.all p := by
  conv => rhs; rw [← rng_getD xs d]
  rw [List.all_map]
  rfl
theorem forL_mem {body : D → Sto → Fl} (I : Sto → Prop) : ∀ (ds : List D) (S : Sto), I S → (∀ d ∈ ds, ∀ S, I S → ∃ S', (body d S = .nx S' ∨ body d S = .ct S') ∧ I S') → ∃ S', forL body ds S = .nx S' ∧ I S'
  | [], S, h0, _ => ⟨S, rfl, h0⟩
  | d :: ds, S, h0, st => by
    obtain ⟨S', h1, h2⟩ := st d (by simp) S h0
    obtain ⟨S'', h3, h4⟩ := forL_mem I ds S' h2 fun e h => st e (by simp [h])
    refine ⟨S'', ?_, h4⟩
    unfold forL
    rcases h1 with h1 | h1 <;> rw [h1] <;> exact h3
theorem max_int {a b : Int} : dMax (.int a) (.int b) = some (.int (max a b)) := by
  unfold dMax
  simp only
  congr 2
  split <;> omega
theorem min_int {a b : Int} : dMin (.int a) (.int b) = some (.int (min a b)) := by
  unfold dMin
  simp only
  congr 2
  split <;> omega
def turns (A n : Nat) : Nat := min A (max 1 (n / 2))
theorem turns_le {A n : Nat} : turns A n ≤ A := Nat.min_le_left _ _
/-- how often a law turns -/
theorem ev_turns {c : Cfg} {ns : List Int} {r : List Sl} {A : Int} {a : Nat} (hA : A = (a : Int)) (ha : a ≤ 1000) : evI c (.rng1 (.bf .min2 (.cons (.int A) (.cons (.bf .max2 (.cons (.int 1) (.cons (.bin .div (.bf .len (.cons (.var 0) (.nil))) (.int 2)) (.nil)))) (.nil))))) (.fro (.list (zs ns)) :: r) = .ok (rng 0 (turns a ns.length)) (.fro (.list (zs ns)) :: r) := by
  subst hA
  have dv : dDiv (.int (ns.length : Int)) (.int 2) = some (.int (ns.length / 2 : Nat)) := by
    rw [show dDiv (.int (ns.length : Int)) (.int 2) = some (.int ((ns.length : Int).fdiv 2)) from div_int ⟨by decide, by decide⟩]
    congr 2
    rw [Int.fdiv_eq_ediv_of_nonneg _ (by decide)]
    omega
  have e : min (a : Int) (max 1 ((ns.length / 2 : Nat) : Int)) = (turns a ns.length : Int) := by unfold turns; omega
  have t := turns_le (A := a) (n := ns.length)
  have rr : range62 (turns a ns.length : Int) = true := r62 (by omega) (by omega)
  simp only [evI_rng1, ev_bf, evs_cons, evs_nil, ev_int, ev_var, ev_bin, evVar_fro (S := .fro (.list (zs ns)) :: r) (i := 0) (d := .list (zs ns)) rfl, rb_ok, g_len, g_min, g_max, g_div, one_1, two_2, len_list, ro_some, zs_len, dv, max_int, min_int, e, asInt_i, rr, if_pos]
  rfl
theorem map_id_D (xs : List D) : xs.map (fun d => d) = xs := by simp
end Dv

namespace Dv
open PySem PySem.Spec L2
/-! sorting whole numbers -/
def leI (a b : Int) : Bool := decide (a ≤ b)
theorem alike_ints2 (ns : List Int) : allAlike (ns.map PyData.int) = true := by
  unfold allAlike
  simp [PySem.W.alike]
theorem sortable_ints (ns : List Int) : sortable (ns.map PyData.int) = true := by
  unfold sortable
  simp
theorem dSorted_ints (ns : List Int) : dSorted (.tuple (ns.map .int)) = some ((ns.mergeSort leI).map .int) ∧ dSorted (.list (ns.map .int)) = some ((ns.mergeSort leI).map .int) := by
  have e : (ns.map PyData.int).mergeSort (PySem.W.dataLe false id) = (ns.mergeSort leI).map PyData.int := by
    refine (PySem.W.sort_maps (r := leI) (s := PySem.W.dataLe false id) (l := ns) PyData.int fun a _ b _ => ?_).symm
    show leI a b = (!PySem.W.dataLt (.int b) (.int a))
    rw [PySem.W.dataLt_int]
    unfold leI
    by_cases h : a ≤ b <;> simp [h] <;> omega
  have h : (allAlike (ns.map PyData.int) && sortable (ns.map PyData.int) && decide (PyData.depthAll (ns.map PyData.int) ≤ 60)) = true := by
    rw [alike_ints2, sortable_ints, depth_ints]
    rfl
  constructor
  · show (if _ then some _ else none) = _
    rw [if_pos h, e]
  · show (if _ then some _ else none) = _
    rw [if_pos h, e]
theorem eqv_ints : ∀ (as bs : List Int), PyData.eqvAll (as.map .int) (bs.map .int) = decide (as = bs)
  | [], [] => by simp [PyData.eqvAll]
  | [], b :: bs => by simp [PyData.eqvAll]
  | a :: as, [] => by simp [PyData.eqvAll]
  | a :: as, b :: bs => by
    have ih := eqv_ints as bs
    rw [List.map_cons, List.map_cons, PyData.eqvAll, ih]
    by_cases h : a = b <;> simp [PyData.eqv, h]
theorem eq_listInts (as bs : List Int) : dEq (.list (as.map .int)) (.list (bs.map .int)) = some (.bool (decide (as = bs))) := by
  have h : min (PyData.list (as.map .int)).depth (PyData.list (bs.map .int)).depth ≤ 60 := by
    simp only [PyData.depth, depth_ints]
    decide
  rw [dEq, if_pos h, PyData.eqv, eqv_ints]
def rises (ns : List Int) : Bool := (List.range (ns.length - 1)).all fun k => decide ((ns[k]?).getD 0 ≤ (ns[k + 1]?).getD 0)
theorem rises_pair (ns : List Int) : rises ns = true ↔ ns.Pairwise (· ≤ ·) := by
  unfold rises
  rw [List.all_eq_true, List.pairwise_iff_getElem]
  constructor
  · intro h
    have step : ∀ k, (hk : k + 1 < ns.length) → ns[k]'(by omega) ≤ ns[k + 1] := fun k hk => by
      have := h k (by simp; omega)
      rw [decide_eq_true_eq, List.getElem?_eq_getElem (by omega), List.getElem?_eq_getElem hk] at this
      exact this
    intro i j hi hj hij
    obtain ⟨d, rfl⟩ : ∃ d, j = i + 1 + d := ⟨j - (i + 1), by omega⟩
    clear hij
    induction d with
    | zero => exact step i hj
    | succ d ih => exact Int.le_trans (ih (by omega)) (step (i + 1 + d) hj)
  · intro h k hk
    have hk : k < ns.length - 1 := by simpa using hk
    rw [decide_eq_true_eq, List.getElem?_eq_getElem (by omega), List.getElem?_eq_getElem (by omega)]
    exact h k (k + 1) (by omega) (by omega) (by omega)
theorem sort_rises (ns : List Int) : decide (ns = ns.mergeSort leI) = rises ns := by
  have p : ns.Pairwise (· ≤ ·) ↔ ns = ns.mergeSort leI := by
    constructor
    · intro h
      refine (List.mergeSort_of_pairwise (le := leI) (h.imp fun h => ?_)).symm
      simpa [leI] using h
    · intro h
      rw [h]
      have := List.pairwise_mergeSort (le := leI) (fun a b c h1 h2 => by simp [leI] at *; omega) (fun a b => by simp [leI]; omega) ns
      exact this.imp fun h => by simpa [leI] using h
  by_cases h : ns = ns.mergeSort leI
  · rw [decide_eq_true h]
    exact ((rises_pair ns).mpr (p.mpr h)).symm
  · rw [decide_eq_false h]
    cases q : rises ns
    · rfl
    · exact absurd (p.mp ((rises_pair ns).mp q)) h
end Dv

namespace Dv
/-! tables of values: triples (value, count, row) put together; plain theory -/
abbrev Row := List Int
/-- number by number -/
def lexL : Row → Row → Bool
  | [], [] => false
  | [], _ :: _ => true
  | _ :: _, [] => false
  | a :: as, b :: bs => decide (a < b) || (decide (a = b) && lexL as bs)
/-- the shorter first -/
def rowLt (a b : Row) : Bool := decide (a.length < b.length) || (decide (a.length = b.length) && lexL a b)
abbrev rle (a b : Row) : Prop := rowLt b a = false
theorem lexL_irr : ∀ a, lexL a a = false
  | [] => rfl
  | a :: as => by simp [lexL, lexL_irr as]
theorem lexL_tri : ∀ {a b : Row}, lexL a b = false → lexL b a = false → a = b
  | [], [], _, _ => rfl
  | [], _ :: _, h, _ => by simp [lexL] at h
  | _ :: _, [], _, h => by simp [lexL] at h
  | a :: as, b :: bs, h1, h2 => by
    simp [lexL] at h1 h2
    have e : a = b := by omega
    subst e
    rw [lexL_tri (h1.2 rfl) (h2.2 rfl)]
theorem lexL_trans : ∀ {a b c : Row}, lexL a b = true → lexL b c = true → lexL a c = true
  | [], [], _, h, _ => by simp [lexL] at h
  | [], _ :: _, [], _, h => by simp [lexL] at h
  | [], _ :: _, _ :: _, _, _ => rfl
  | _ :: _, [], _, h, _ => by simp [lexL] at h
  | _ :: _, _ :: _, [], _, h => by simp [lexL] at h
  | a :: as, b :: bs, c :: cs, h1, h2 => by
    simp [lexL] at h1 h2 ⊢
    rcases h1 with h1 | ⟨rfl, h1⟩
    · rcases h2 with h2 | ⟨rfl, h2⟩
      · left; omega
      · left; exact h1
    · rcases h2 with h2 | ⟨rfl, h2⟩
      · left; exact h2
      · right; exact ⟨rfl, lexL_trans h1 h2⟩
theorem lexL_app : ∀ {a a' b b' : Row}, a.length = a'.length → lexL (a ++ b) (a' ++ b') = (lexL a a' || (decide (a = a') && lexL b b'))
  | [], [], b, b', _ => by simp [lexL]
  | x :: a, y :: a', b, b', h => by
    have ih := lexL_app (a := a) (a' := a') (b := b) (b' := b') (by simpa using h)
    simp only [List.cons_append, lexL, ih, List.cons.injEq]
    by_cases e : x = y
    · subst e; simp
    · simp [e]
theorem rowLt_irr (a : Row) : rowLt a a = false := by simp [rowLt, lexL_irr]
theorem rowLt_trans {a b c : Row} (h1 : rowLt a b = true) (h2 : rowLt b c = true) : rowLt a c = true := by
  simp [rowLt] at h1 h2 ⊢
  rcases h1 with h1 | ⟨e1, h1⟩
  · rcases h2 with h2 | ⟨e2, h2⟩
    · left; omega
    · left; omega
  · rcases h2 with h2 | ⟨e2, h2⟩
    · left; omega
    · right; exact ⟨by omega, lexL_trans h1 h2⟩
theorem rle_anti {a b : Row} (h1 : rle a b) (h2 : rle b a) : a = b := by
  simp [rle, rowLt] at h1 h2
  have e : a.length = b.length := by omega
  exact lexL_tri (h2.2 e) (h1.2 e.symm)
theorem rle_refl (a : Row) : rle a a := rowLt_irr a
theorem rowLt_asymm {a b : Row} (h : rowLt a b = true) : rowLt b a = false := by
  cases q : rowLt b a with
  | false => rfl
  | true => have := rowLt_trans h q; rw [rowLt_irr] at this; cases this
theorem rle_of_lt {a b : Row} (h : rowLt a b = true) : rle a b := rowLt_asymm h
theorem rle_cases {a b : Row} (h : rle a b) : rowLt a b = true ∨ a = b := by
  cases q : rowLt a b with
  | true => exact .inl rfl
  | false => exact .inr (rle_anti h q)
theorem rle_total (a b : Row) : rle a b ∨ rle b a := by
  cases q : rowLt b a with
  | false => exact .inl q
  | true => exact .inr (rowLt_asymm q)
theorem rle_trans {a b c : Row} (h1 : rle a b) (h2 : rle b c) : rle a c := by
  rcases rle_cases h1 with h1 | rfl
  · rcases rle_cases h2 with h2 | rfl
    · exact rle_of_lt (rowLt_trans h1 h2)
    · exact rle_of_lt h1
  · exact h2
theorem rle_app {a a' b b' : Row} (h1 : rle a a') (h2 : rle b b') : rle (a ++ b) (a' ++ b') := by
  simp [rle, rowLt] at h1 h2 ⊢
  refine ⟨by omega, fun e => ?_⟩
  have e1 : a.length = a'.length := by omega
  have e2 : b.length = b'.length := by omega
  rw [lexL_app e1.symm, h1.2 e1.symm, h2.2 e2.symm]
  simp
structure Tr (α : Type) where
  v : α
  c : Int
  r : Row
abbrev Pr (α : Type) := List (α × Row)
def sumT {α : Type} (X : List (Tr α)) (φ : α → Int) : Int := (X.map fun x => x.c * φ x.v).sum
def sumP {α : Type} (P : Pr α) (φ : α → Int) : Int := (P.map fun p => φ p.1).sum
section sums
variable {α β : Type}
@[simp] theorem sumT_nil (φ : α → Int) : sumT [] φ = 0 := rfl
@[simp] theorem sumP_nil (φ : α → Int) : sumP [] φ = 0 := rfl
@[simp] theorem sumT_cons (x : Tr α) (X : List (Tr α)) (φ : α → Int) : sumT (x :: X) φ = x.c * φ x.v + sumT X φ := by simp [sumT]
@[simp] theorem sumP_cons (x : α × Row) (X : Pr α) (φ : α → Int) : sumP (x :: X) φ = φ x.1 + sumP X φ := by simp [sumP]
@[simp] theorem sumT_app (X Y : List (Tr α)) (φ : α → Int) : sumT (X ++ Y) φ = sumT X φ + sumT Y φ := by simp [sumT]
@[simp] theorem sumP_app (X Y : Pr α) (φ : α → Int) : sumP (X ++ Y) φ = sumP X φ + sumP Y φ := by simp [sumP]
theorem sumT_congr {X : List (Tr α)} {φ ψ : α → Int} (h : ∀ x ∈ X, φ x.v = ψ x.v) : sumT X φ = sumT X ψ := by
  unfold sumT
  rw [List.map_congr_left fun x hx => by rw [h x hx]]
theorem sumP_perm {P Q : Pr α} (h : P.Perm Q) (φ : α → Int) : sumP P φ = sumP Q φ := by
  induction h with
  | nil => rfl
  | cons x _ ih => simp [ih]
  | swap x y l => simp; omega
  | trans _ _ i1 i2 => exact i1.trans i2
theorem sumT_perm {P Q : List (Tr α)} (h : P.Perm Q) (φ : α → Int) : sumT P φ = sumT Q φ := by
  induction h with
  | nil => rfl
  | cons x _ ih => simp [ih]
  | swap x y l => simp; omega
  | trans _ _ i1 i2 => exact i1.trans i2
end sums
/-- the triples X tell of the values with their rows P: counts, rows that are there, no less one left out -/
structure Raw {α : Type} (P : Pr α) (X : List (Tr α)) : Prop where
  sum : ∀ φ, sumT X φ = sumP P φ
  occ : ∀ x ∈ X, (x.v, x.r) ∈ P
  dom : ∀ p ∈ P, ∃ x ∈ X, x.v = p.1 ∧ rle x.r p.2
  pos : ∀ x ∈ X, 1 ≤ x.c
structure IsTab {α : Type} (P : Pr α) (T : List (Tr α)) : Prop where
  raw : Raw P T
  vnd : (T.map (·.v)).Nodup
  srt : T.Pairwise fun a b => rowLt a.r b.r = true
section tabs
variable {α β : Type}
theorem nd_eq {T : List (Tr α)} (h : (T.map (·.v)).Nodup) {x y : Tr α} (hx : x ∈ T) (hy : y ∈ T) (e : x.v = y.v) : x = y := by
  induction T with
  | nil => cases hx
  | cons a T ih =>
    rw [List.map_cons, List.nodup_cons] at h
    rcases List.mem_cons.mp hx with rfl | hx
    · rcases List.mem_cons.mp hy with rfl | hy
      · rfl
      · exact absurd (e ▸ List.mem_map_of_mem (f := fun t : Tr α => t.v) hy) h.1
    · rcases List.mem_cons.mp hy with q | hy
      · exact absurd (q ▸ e ▸ List.mem_map_of_mem (f := fun t : Tr α => t.v) hx) h.1
      · exact ih h.2 hx hy
open Classical in
noncomputable def ind (v : α) : α → Int := fun w => if w = v then 1 else 0
theorem ind_self (v : α) : ind v v = 1 := by simp [ind]
theorem ind_ne {v w : α} (h : w ≠ v) : ind v w = 0 := by simp [ind, h]
theorem sum_ind0 {T : List (Tr α)} {v : α} (h : v ∉ T.map (·.v)) : sumT T (ind v) = 0 := by
  induction T with
  | nil => rfl
  | cons a T ih =>
    rw [List.map_cons, List.mem_cons, not_or] at h
    rw [sumT_cons, ih h.2, ind_ne (fun e => h.1 e.symm)]
    simp
theorem sum_ind {T : List (Tr α)} (h : (T.map (·.v)).Nodup) {x : Tr α} (hx : x ∈ T) : sumT T (ind x.v) = x.c := by
  induction T with
  | nil => cases hx
  | cons a T ih =>
    rw [List.map_cons, List.nodup_cons] at h
    rcases List.mem_cons.mp hx with rfl | hx
    · rw [sumT_cons, ind_self, sum_ind0 h.1]; omega
    · have : a.v ≠ x.v := fun e => h.1 (e ▸ List.mem_map_of_mem (f := fun t : Tr α => t.v) hx)
      rw [sumT_cons, ind_ne this, ih h.2 hx]; omega
theorem Tr.ext {x y : Tr α} (h1 : x.v = y.v) (h2 : x.c = y.c) (h3 : x.r = y.r) : x = y := by
  cases x; cases y; simp at h1 h2 h3; subst h1 h2 h3; rfl
/-- what stands in one table stands in the other -/
theorem IsTab.sub {P Q : Pr α} {T U : List (Tr α)} (a : IsTab P T) (b : IsTab Q U) (pq : P.Perm Q) {x : Tr α} (hx : x ∈ T) : x ∈ U := by
  obtain ⟨y, hy, e, l⟩ := b.raw.dom _ (pq.mem_iff.mp (a.raw.occ x hx))
  obtain ⟨z, hz, e2, l2⟩ := a.raw.dom _ (pq.mem_iff.mpr (b.raw.occ y hy))
  have : z = x := nd_eq a.vnd hz hx (e2.trans e)
  subst this
  have er : y.r = z.r := rle_anti l l2
  have ec : y.c = z.c := by
    rw [← sum_ind b.vnd hy, ← sum_ind a.vnd hz, b.raw.sum, a.raw.sum, sumP_perm pq, show y.v = z.v from e]
  rw [← Tr.ext e ec er]
  exact hy
theorem sorted_eq {T U : List (Tr α)} : T.Pairwise (fun a b => rowLt a.r b.r = true) → U.Pairwise (fun a b => rowLt a.r b.r = true) → (∀ x, x ∈ T ↔ x ∈ U) → T = U := by
  induction T generalizing U with
  | nil =>
    intro _ _ h
    cases U with
    | nil => rfl
    | cons u U => exact absurd ((h u).mpr (by simp)) (by simp)
  | cons t T ih =>
    intro h1 h2 h
    cases U with
    | nil => exact absurd ((h t).mp (by simp)) (by simp)
    | cons u U =>
      rw [List.pairwise_cons] at h1 h2
      have e : t = u := by
        rcases List.mem_cons.mp ((h t).mp (by simp)) with e | m
        · exact e
        · rcases List.mem_cons.mp ((h u).mpr (by simp)) with e | m'
          · exact e.symm
          · have a := h1.1 u m'
            have b := rowLt_asymm (h2.1 t m)
            rw [a] at b; cases b
      subst e
      congr 1
      refine ih h1.2 h2.2 fun x => ?_
      constructor
      · intro m
        rcases List.mem_cons.mp ((h x).mp (by simp [m])) with rfl | m'
        · have := h1.1 x m
          rw [rowLt_irr] at this; cases this
        · exact m'
      · intro m
        rcases List.mem_cons.mp ((h x).mpr (by simp [m])) with rfl | m'
        · have := h2.1 x m
          rw [rowLt_irr] at this; cases this
        · exact m'
theorem IsTab.uniq {P Q : Pr α} {T U : List (Tr α)} (a : IsTab P T) (b : IsTab Q U) (pq : P.Perm Q) : T = U :=
  sorted_eq a.srt b.srt fun x => ⟨a.sub b pq, b.sub a pq.symm⟩
/-! how raw triples are made -/
theorem Raw.perm {P Q : Pr α} {X : List (Tr α)} (h : Raw P X) (e : P.Perm Q) : Raw Q X :=
  ⟨fun φ => (h.sum φ).trans (sumP_perm e φ), fun x hx => e.mem_iff.mp (h.occ x hx), fun p hp => h.dom p (e.mem_iff.mpr hp), h.pos⟩
theorem Raw.permX {P : Pr α} {X Y : List (Tr α)} (h : Raw P X) (e : X.Perm Y) : Raw P Y :=
  ⟨fun φ => (sumT_perm e φ).symm.trans (h.sum φ), fun x hx => h.occ x (e.mem_iff.mpr hx), fun p hp => let ⟨x, hx, q⟩ := h.dom p hp; ⟨x, e.mem_iff.mp hx, q⟩, fun x hx => h.pos x (e.mem_iff.mpr hx)⟩
theorem IsTab.perm {P Q : Pr α} {T : List (Tr α)} (h : IsTab P T) (e : P.Perm Q) : IsTab Q T := ⟨h.raw.perm e, h.vnd, h.srt⟩
theorem Raw.nil : Raw ([] : Pr α) [] := ⟨fun _ => rfl, fun _ h => (by cases h), fun _ h => (by cases h), fun _ h => (by cases h)⟩
/-- each pair by itself -/
theorem Raw.self (P : Pr α) : Raw P (P.map fun p => ⟨p.1, 1, p.2⟩) where
  sum := fun φ => by
    induction P with
    | nil => rfl
    | cons p P ih => simp [ih]
  occ := fun x hx => by
    obtain ⟨p, hp, rfl⟩ := List.mem_map.mp hx
    exact hp
  dom := fun p hp => ⟨_, List.mem_map_of_mem hp, rfl, rle_refl _⟩
  pos := fun x hx => by
    obtain ⟨p, hp, rfl⟩ := List.mem_map.mp hx
    exact Int.le_refl _
theorem Raw.app {P Q : Pr α} {X Y : List (Tr α)} (a : Raw P X) (b : Raw Q Y) : Raw (P ++ Q) (X ++ Y) where
  sum := fun φ => by rw [sumT_app, sumP_app, a.sum, b.sum]
  occ := fun x hx => by
    rcases List.mem_append.mp hx with h | h
    · exact List.mem_append.mpr (.inl (a.occ x h))
    · exact List.mem_append.mpr (.inr (b.occ x h))
  dom := fun p hp => by
    rcases List.mem_append.mp hp with h | h
    · obtain ⟨x, hx, q⟩ := a.dom p h
      exact ⟨x, List.mem_append.mpr (.inl hx), q⟩
    · obtain ⟨x, hx, q⟩ := b.dom p h
      exact ⟨x, List.mem_append.mpr (.inr hx), q⟩
  pos := fun x hx => by
    rcases List.mem_append.mp hx with h | h
    · exact a.pos x h
    · exact b.pos x h
def mapP (f : α → β) (P : Pr α) : Pr β := P.map fun p => (f p.1, p.2)
def mapT (f : α → β) (X : List (Tr α)) : List (Tr β) := X.map fun x => ⟨f x.v, x.c, x.r⟩
theorem sumT_mapT (f : α → β) (X : List (Tr α)) (φ : β → Int) : sumT (mapT f X) φ = sumT X fun a => φ (f a) := by
  unfold mapT sumT
  rw [List.map_map]
  rfl
theorem sumP_mapP (f : α → β) (P : Pr α) (φ : β → Int) : sumP (mapP f P) φ = sumP P fun a => φ (f a) := by
  unfold mapP sumP
  rw [List.map_map]
  rfl
theorem Raw.map {P : Pr α} {X : List (Tr α)} (f : α → β) (h : Raw P X) : Raw (mapP f P) (mapT f X) where
  sum := fun φ => by rw [sumT_mapT, sumP_mapP, h.sum]
  occ := fun x hx => by
    obtain ⟨y, hy, rfl⟩ := List.mem_map.mp hx
    exact List.mem_map.mpr ⟨_, h.occ y hy, rfl⟩
  dom := fun p hp => by
    obtain ⟨q, hq, rfl⟩ := List.mem_map.mp hp
    obtain ⟨x, hx, e, l⟩ := h.dom q hq
    exact ⟨_, List.mem_map_of_mem hx, by simp [e], l⟩
  pos := fun x hx => by
    obtain ⟨y, hy, rfl⟩ := List.mem_map.mp hx
    exact h.pos y hy
theorem sumT_filter (f : α → Bool) (X : List (Tr α)) (φ : α → Int) : sumT (X.filter fun x => f x.v) φ = sumT X fun a => if f a then φ a else 0 := by
  induction X with
  | nil => rfl
  | cons x X ih =>
    rw [List.filter_cons, sumT_cons]
    by_cases h : f x.v = true
    · rw [if_pos h, sumT_cons, ih]; simp [h]
    · rw [if_neg h, ih]; simp [h]
theorem sumP_filter (f : α → Bool) (X : Pr α) (φ : α → Int) : sumP (X.filter fun x => f x.1) φ = sumP X fun a => if f a then φ a else 0 := by
  induction X with
  | nil => rfl
  | cons x X ih =>
    rw [List.filter_cons, sumP_cons]
    by_cases h : f x.1 = true
    · rw [if_pos h, sumP_cons, ih]; simp [h]
    · rw [if_neg h, ih]; simp [h]
theorem Raw.filter {P : Pr α} {X : List (Tr α)} (f : α → Bool) (h : Raw P X) : Raw (P.filter fun p => f p.1) (X.filter fun x => f x.v) where
  sum := fun φ => by rw [sumT_filter, sumP_filter, h.sum]
  occ := fun x hx => by
    obtain ⟨hx, q⟩ := List.mem_filter.mp hx
    exact List.mem_filter.mpr ⟨h.occ x hx, q⟩
  dom := fun p hp => by
    obtain ⟨hp, q⟩ := List.mem_filter.mp hp
    obtain ⟨x, hx, e, l⟩ := h.dom p hp
    exact ⟨x, List.mem_filter.mpr ⟨hx, by rw [e]; exact q⟩, e, l⟩
  pos := fun x hx => h.pos x (List.mem_filter.mp hx).1
/-- one after the other -/
def bnd (P : Pr α) (A : α → Pr β) : Pr β := P.flatMap fun p => (A p.1).map fun a => (a.1, p.2 ++ a.2)
def bndT (X : List (Tr α)) (B : α → List (Tr β)) : List (Tr β) := X.flatMap fun x => (B x.v).map fun b => ⟨b.v, x.c * b.c, x.r ++ b.r⟩
theorem sum_scale (k : Int) : ∀ (X : List (Tr β)) (r : Row) (φ : β → Int), sumT (X.map fun b => (⟨b.v, k * b.c, r ++ b.r⟩ : Tr β)) φ = k * sumT X φ
  | [], r, φ => by simp
  | x :: X, r, φ => by
    rw [List.map_cons, sumT_cons, sum_scale k X r φ, sumT_cons, Int.mul_add, Int.mul_assoc]
theorem sum_rows : ∀ (X : Pr β) (r : Row) (φ : β → Int), sumP (X.map fun b => (b.1, r ++ b.2)) φ = sumP X φ
  | [], r, φ => rfl
  | x :: X, r, φ => by rw [List.map_cons, sumP_cons, sum_rows X r φ, sumP_cons]
theorem sumT_bnd (X : List (Tr α)) (B : α → List (Tr β)) (φ : β → Int) : sumT (bndT X B) φ = sumT X fun a => sumT (B a) φ := by
  induction X with
  | nil => rfl
  | cons x X ih =>
    unfold bndT at ih ⊢
    rw [List.flatMap_cons, sumT_app, ih, sumT_cons, sum_scale]
theorem sumP_bnd (P : Pr α) (A : α → Pr β) (φ : β → Int) : sumP (bnd P A) φ = sumP P fun a => sumP (A a) φ := by
  induction P with
  | nil => rfl
  | cons x X ih =>
    unfold bnd at ih ⊢
    rw [List.flatMap_cons, sumP_app, ih, sumP_cons, sum_rows]
theorem Raw.bind {P : Pr α} {X : List (Tr α)} {A : α → Pr β} {B : α → List (Tr β)} (h : Raw P X) (g : ∀ p ∈ P, Raw (A p.1) (B p.1)) : Raw (bnd P A) (bndT X B) where
  sum := fun φ => by
    rw [sumT_bnd, sumP_bnd, ← h.sum]
    exact sumT_congr fun x hx => (g _ (h.occ x hx)).sum φ
  occ := fun y hy => by
    obtain ⟨x, hx, hy⟩ := List.mem_flatMap.mp hy
    obtain ⟨b, hb, rfl⟩ := List.mem_map.mp hy
    exact List.mem_flatMap.mpr ⟨_, h.occ x hx, List.mem_map.mpr ⟨_, (g _ (h.occ x hx)).occ b hb, rfl⟩⟩
  dom := fun q hq => by
    obtain ⟨p, hp, hq⟩ := List.mem_flatMap.mp hq
    obtain ⟨a, ha, rfl⟩ := List.mem_map.mp hq
    obtain ⟨x, hx, e, l⟩ := h.dom p hp
    obtain ⟨b, hb, e2, l2⟩ := (g p hp).dom a ha
    refine ⟨⟨b.v, x.c * b.c, x.r ++ b.r⟩, List.mem_flatMap.mpr ⟨x, hx, List.mem_map.mpr ⟨b, by rw [e]; exact hb, rfl⟩⟩, e2, rle_app l l2⟩
  pos := fun y hy => by
    obtain ⟨x, hx, hy⟩ := List.mem_flatMap.mp hy
    obtain ⟨b, hb, rfl⟩ := List.mem_map.mp hy
    have h1 := h.pos x hx
    have h2 := (g _ (h.occ x hx)).pos b hb
    show 1 ≤ x.c * b.c
    have := Int.mul_le_mul h1 h2 (by decide) (by omega)
    simpa using this
/-! none begins another one -/
def pfx (a b : Row) : Prop := a <+: b
def Apart (a b : Row) : Prop := ¬ a <+: b ∧ ¬ b <+: a
def PF (P : Pr α) : Prop := P.Pairwise fun a b => Apart a.2 b.2
theorem Apart.symm {a b : Row} (h : Apart a b) : Apart b a := ⟨h.2, h.1⟩
theorem Apart.ne {a b : Row} (h : Apart a b) : a ≠ b := fun e => h.1 (e ▸ List.prefix_rfl)
/-- what lies behind does not bring them together -/
theorem Apart.behind {a b c d : Row} (h : Apart a b) (h1 : a <+: c) (h2 : b <+: d) : Apart c d := by
  constructor
  · intro e
    rcases List.prefix_or_prefix_of_prefix (h1.trans e) h2 with q | q
    · exact h.1 q
    · exact h.2 q
  · intro e
    rcases List.prefix_or_prefix_of_prefix h1 (h2.trans e) with q | q
    · exact h.1 q
    · exact h.2 q
theorem Apart.ahead {a b : Row} (r : Row) (h : Apart a b) : Apart (r ++ a) (r ++ b) :=
  ⟨fun e => h.1 ((List.prefix_append_right_inj r).mp e), fun e => h.2 ((List.prefix_append_right_inj r).mp e)⟩
theorem Apart.head {x y : Int} (h : x ≠ y) (a b : Row) : Apart (x :: a) (y :: b) :=
  ⟨fun e => h (List.cons_prefix_cons.mp e).1, fun e => h (List.cons_prefix_cons.mp e).1.symm⟩
theorem PF.nodup {P : Pr α} (h : PF P) : (P.map (·.2)).Nodup := by
  unfold List.Nodup
  rw [List.pairwise_map]
  exact h.imp fun a => a.ne
theorem PF.map {P : Pr α} (f : α → β) (h : PF P) : PF (mapP f P) := by
  unfold PF mapP
  rw [List.pairwise_map]
  exact h
theorem PF.filter {P : Pr α} (f : α × Row → Bool) (h : PF P) : PF (P.filter f) := List.Pairwise.filter f h
theorem PF.bind {P : Pr α} {A : α → Pr β} (h : PF P) (g : ∀ p ∈ P, PF (A p.1)) : PF (bnd P A) := by
  induction P with
  | nil => exact .nil
  | cons p P ih =>
    unfold PF at h
    rw [List.pairwise_cons] at h
    have i := ih h.2 fun q hq => g q (by simp [hq])
    unfold bnd at i ⊢
    rw [List.flatMap_cons]
    refine List.pairwise_append.mpr ⟨?_, i, ?_⟩
    · rw [List.pairwise_map]
      exact (g p (by simp)).imp fun a => a.ahead p.2
    · intro a ha b hb
      obtain ⟨a, ha, rfl⟩ := List.mem_map.mp ha
      obtain ⟨q, hq, hb⟩ := List.mem_flatMap.mp hb
      obtain ⟨b, hb, rfl⟩ := List.mem_map.mp hb
      exact (h.1 q hq).behind (List.prefix_append _ _) (List.prefix_append _ _)
theorem PF.app {P Q : Pr α} (h : PF P) (g : PF Q) (d : ∀ p ∈ P, ∀ q ∈ Q, Apart p.2 q.2) : PF (P ++ Q) := List.pairwise_append.mpr ⟨h, g, d⟩
theorem PF.perm {P Q : Pr α} (h : PF P) (e : P.Perm Q) : PF Q := (e.pairwise_iff (R := fun a b : α × Row => Apart a.2 b.2) fun {a b} h => Apart.symm h).mp h
end tabs
end Dv

namespace Dv
section put
variable {α β : Type}
/-- the triples X, those of equal values put together -/
structure Grp (X U : List (Tr α)) : Prop where
  sum : ∀ φ, sumT X φ = sumT U φ
  occ : ∀ u ∈ U, ∃ x ∈ X, x.v = u.v ∧ x.r = u.r
  dom : ∀ x ∈ X, ∃ u ∈ U, u.v = x.v ∧ rle u.r x.r
  pos : (∀ x ∈ X, 1 ≤ x.c) → ∀ u ∈ U, 1 ≤ u.c
  vnd : (U.map (·.v)).Nodup
theorem Grp.nil : Grp ([] : List (Tr α)) [] := ⟨fun _ => rfl, fun _ h => (by cases h), fun _ h => (by cases h), fun _ _ h => (by cases h), .nil⟩
def minR (a b : Row) : Row := if rowLt b a then b else a
theorem minR_cases (a b : Row) : minR a b = a ∨ minR a b = b := by
  unfold minR
  split
  · exact .inr rfl
  · exact .inl rfl
theorem minR_l (a b : Row) : rle (minR a b) a := by
  unfold minR
  split
  · rename_i h; exact rle_of_lt h
  · exact rle_refl a
theorem minR_r (a b : Row) : rle (minR a b) b := by
  unfold minR
  split
  · exact rle_refl b
  · rename_i h; exact Bool.eq_false_iff.mpr h
open Classical in
/-- one more -/
noncomputable def putOne (U : List (Tr α)) (x : Tr α) : List (Tr α) := if x.v ∈ U.map (·.v) then U.map (fun u => if u.v = x.v then ⟨u.v, x.c + u.c, minR x.r u.r⟩ else u) else U ++ [x]
theorem putOne_new {U : List (Tr α)} {x : Tr α} (h : x.v ∉ U.map (·.v)) : putOne U x = U ++ [x] := by unfold putOne; rw [if_neg h]
open Classical in
theorem putOne_sum {U : List (Tr α)} (hn : (U.map (·.v)).Nodup) (x : Tr α) (φ : α → Int) : sumT (putOne U x) φ = x.c * φ x.v + sumT U φ := by
  unfold putOne
  split
  · rename_i h
    induction U with
    | nil => cases h
    | cons u U ih =>
      rw [List.map_cons, List.nodup_cons] at hn
      rw [List.map_cons, sumT_cons, sumT_cons]
      by_cases e : u.v = x.v
      · rw [if_pos e]
        have rest : U.map (fun u => if u.v = x.v then (⟨u.v, x.c + u.c, minR x.r u.r⟩ : Tr α) else u) = U := by
          rw [List.map_congr_left (g := id) fun w hw => ?_, List.map_id]
          rw [if_neg]
          · rfl
          · intro q
            exact hn.1 (e.trans q.symm ▸ List.mem_map_of_mem (f := fun t : Tr α => t.v) hw)
        rw [rest]
        simp only [e, Int.add_mul]
        omega
      · rw [if_neg e]
        rw [List.map_cons, List.mem_cons] at h
        rw [ih hn.2 (h.resolve_left fun q => e q.symm)]
        omega
  · rw [sumT_app]
    simp
    omega
open Classical in
theorem putOne_vs {U : List (Tr α)} {x : Tr α} (h : x.v ∈ U.map (·.v)) : (putOne U x).map (·.v) = U.map (·.v) := by
  unfold putOne
  rw [if_pos h, List.map_map]
  refine List.map_congr_left fun u _ => ?_
  show (if u.v = x.v then (⟨u.v, x.c + u.c, minR x.r u.r⟩ : Tr α) else u).v = u.v
  split <;> rfl
theorem Grp.put {X U : List (Tr α)} (g : Grp X U) (x : Tr α) : Grp (X ++ [x]) (putOne U x) where
  sum := fun φ => by
    rw [putOne_sum g.vnd, sumT_app, g.sum]
    simp
    omega
  occ := fun u hu => by
    unfold putOne at hu
    split at hu
    · obtain ⟨w, hw, rfl⟩ := List.mem_map.mp hu
      obtain ⟨y, hy, e1, e2⟩ := g.occ w hw
      split
      · rename_i e
        rcases minR_cases x.r w.r with q | q
        · exact ⟨x, by simp, e.symm, q.symm⟩
        · exact ⟨y, by simp [hy], e1, e2.trans q.symm⟩
      · exact ⟨y, by simp [hy], e1, e2⟩
    · rcases List.mem_append.mp hu with h | h
      · obtain ⟨y, hy, q⟩ := g.occ u h
        exact ⟨y, by simp [hy], q⟩
      · rw [List.mem_singleton.mp h]
        exact ⟨x, by simp, rfl, rfl⟩
  dom := fun y hy => by
    unfold putOne
    split
    · rename_i h
      rcases List.mem_append.mp hy with m | m
      · obtain ⟨u, hu, e, l⟩ := g.dom y m
        refine ⟨_, List.mem_map_of_mem hu, ?_⟩
        split
        · exact ⟨e, rle_trans (minR_r _ _) l⟩
        · exact ⟨e, l⟩
      · rw [List.mem_singleton.mp m]
        obtain ⟨u, hu, e⟩ := List.mem_map.mp h
        refine ⟨_, List.mem_map_of_mem hu, ?_⟩
        rw [if_pos e]
        exact ⟨e, minR_l _ _⟩
    · rcases List.mem_append.mp hy with m | m
      · obtain ⟨u, hu, q⟩ := g.dom y m
        exact ⟨u, by simp [hu], q⟩
      · rw [List.mem_singleton.mp m]
        exact ⟨x, by simp, rfl, rle_refl _⟩
  pos := fun h u hu => by
    have h1 := g.pos fun y hy => h y (by simp [hy])
    have h2 := h x (by simp)
    unfold putOne at hu
    split at hu
    · obtain ⟨w, hw, rfl⟩ := List.mem_map.mp hu
      have := h1 w hw
      split
      · show 1 ≤ x.c + w.c
        omega
      · exact this
    · rcases List.mem_append.mp hu with m | m
      · exact h1 u m
      · rw [List.mem_singleton.mp m]; exact h2
  vnd := by
    by_cases h : x.v ∈ U.map (·.v)
    · rw [putOne_vs h]; exact g.vnd
    · rw [putOne_new h, List.map_append, List.nodup_append]
      refine ⟨g.vnd, by simp, fun a ha b hb e => h ?_⟩
      simp at hb
      rw [← hb, ← e]
      exact ha
noncomputable def putT (X : List (Tr α)) : List (Tr α) := X.foldl putOne []
theorem putAll_snoc (X : List (Tr α)) (x : Tr α) : putT (X ++ [x]) = putOne (putT X) x := by simp [putT]
theorem grp_fold : ∀ (Y X U : List (Tr α)), Grp X U → Grp (X ++ Y) (Y.foldl putOne U)
  | [], X, U, g => by simpa using g
  | y :: Y, X, U, g => by
    have := grp_fold Y (X ++ [y]) (putOne U y) (g.put y)
    simpa using this
theorem grp_all (X : List (Tr α)) : Grp X (putT X) := by simpa [putT] using grp_fold X [] [] .nil
theorem Raw.grp {P : Pr α} {X U : List (Tr α)} (h : Raw P X) (g : Grp X U) : Raw P U where
  sum := fun φ => (g.sum φ).symm.trans (h.sum φ)
  occ := fun u hu => by
    obtain ⟨x, hx, e1, e2⟩ := g.occ u hu
    rw [← e1, ← e2]
    exact h.occ x hx
  dom := fun p hp => by
    obtain ⟨x, hx, e, l⟩ := h.dom p hp
    obtain ⟨u, hu, e2, l2⟩ := g.dom x hx
    exact ⟨u, hu, e2.trans e, rle_trans l2 l⟩
  pos := g.pos h.pos
def leT (a b : Tr α) : Bool := !rowLt b.r a.r
def srtT (U : List (Tr α)) : List (Tr α) := U.mergeSort leT
theorem srtT_perm (U : List (Tr α)) : (srtT U).Perm U := List.mergeSort_perm _ _
theorem inj_nodup {γ : Type} {U : List (Tr α)} {f : Tr α → γ} (h : (U.map (·.v)).Nodup) (g : ∀ a ∈ U, ∀ b ∈ U, f a = f b → a.v = b.v) : U.Pairwise fun a b => f a ≠ f b := by
  induction U with
  | nil => exact .nil
  | cons u U ih =>
    rw [List.map_cons, List.nodup_cons] at h
    refine List.pairwise_cons.mpr ⟨fun w hw e => h.1 ?_, ih h.2 fun a ha b hb => g a (by simp [ha]) b (by simp [hb])⟩
    rw [g u (by simp) w (by simp [hw]) e]
    exact List.mem_map_of_mem (f := fun t : Tr α => t.v) hw
theorem nodup_fst {P : Pr α} (h : (P.map (·.2)).Nodup) {a b : α × Row} (ha : a ∈ P) (hb : b ∈ P) (e : a.2 = b.2) : a = b := by
  induction P with
  | nil => cases ha
  | cons p P ih =>
    rw [List.map_cons, List.nodup_cons] at h
    rcases List.mem_cons.mp ha with q1 | ha
    · rcases List.mem_cons.mp hb with q2 | hb
      · rw [q1, q2]
      · exact absurd (q1 ▸ e ▸ List.mem_map_of_mem (f := fun t : α × Row => t.2) hb) h.1
    · rcases List.mem_cons.mp hb with q2 | hb
      · exact absurd (q2 ▸ e ▸ List.mem_map_of_mem (f := fun t : α × Row => t.2) ha) h.1
      · exact ih h.2 ha hb
theorem isTab_of {P : Pr α} {U : List (Tr α)} (h : Raw P U) (hn : (U.map (·.v)).Nodup) (hp : (P.map (·.2)).Nodup) : IsTab P (srtT U) where
  raw := h.permX (srtT_perm U).symm
  vnd := ((srtT_perm U).map _).nodup_iff.mpr hn
  srt := by
    have a : (srtT U).Pairwise fun a b => leT a b = true := List.pairwise_mergeSort (fun a b c h1 h2 => by
      simp only [leT, Bool.not_eq_true'] at h1 h2 ⊢
      exact rle_trans h1 h2) (fun a b => by
      simp only [leT, Bool.or_eq_true, Bool.not_eq_true']
      exact rle_total a.r b.r) U
    have n : (srtT U).Pairwise fun a b => a.r ≠ b.r := inj_nodup (f := fun t : Tr α => t.r) (((srtT_perm U).map _).nodup_iff.mpr hn) fun a ha b hb e => by
      have := nodup_fst hp (h.occ a ((srtT_perm U).mem_iff.mp ha)) (h.occ b ((srtT_perm U).mem_iff.mp hb)) e
      exact congrArg (·.1) this
    refine (a.and n).imp fun {a b} q => ?_
    have q1 : rle a.r b.r := by simpa [leT] using q.1
    rcases rle_cases q1 with l | e
    · exact l
    · exact absurd e q.2
theorem isTab_put {P : Pr α} {X : List (Tr α)} (h : Raw P X) (hp : (P.map (·.2)).Nodup) : IsTab P (srtT (putT X)) := isTab_of (h.grp (grp_all X)) (grp_all X).vnd hp
/-! how great -/
theorem sumP_one (P : Pr α) : sumP P (fun _ => 1) = P.length := by
  induction P with
  | nil => rfl
  | cons p P ih => rw [sumP_cons, ih, List.length_cons]; omega
theorem sumT_ge {X : List (Tr α)} (h : ∀ x ∈ X, 1 ≤ x.c) : (X.length : Int) ≤ sumT X fun _ => 1 := by
  induction X with
  | nil => exact Int.le_refl _
  | cons x X ih =>
    have a := ih fun y hy => h y (by simp [hy])
    have b := h x (by simp)
    rw [sumT_cons, List.length_cons]
    omega
theorem sumT_le {X : List (Tr α)} (h : ∀ x ∈ X, 1 ≤ x.c) {x : Tr α} (hx : x ∈ X) : x.c ≤ sumT X fun _ => 1 := by
  induction X with
  | nil => cases hx
  | cons y X ih =>
    have a := sumT_ge fun z hz => h z (List.mem_cons_of_mem y hz)
    have b := h y (by simp)
    rw [sumT_cons]
    rcases List.mem_cons.mp hx with rfl | hx
    · omega
    · have := ih (fun z hz => h z (by simp [hz])) hx
      omega
theorem Raw.len {P : Pr α} {X : List (Tr α)} (h : Raw P X) : X.length ≤ P.length := by
  have := sumT_ge h.pos
  rw [h.sum, sumP_one] at this
  omega
theorem Raw.cle {P : Pr α} {X : List (Tr α)} (h : Raw P X) {x : Tr α} (hx : x ∈ X) : x.c ≤ P.length := by
  have := sumT_le h.pos hx
  rw [h.sum, sumP_one] at this
  exact this
theorem Raw.rle {P : Pr α} {X : List (Tr α)} {m : Nat} (h : Raw P X) (g : ∀ p ∈ P, p.2.length ≤ m) {x : Tr α} (hx : x ∈ X) : x.r.length ≤ m := g _ (h.occ x hx)
theorem Raw.empty {P : Pr α} {X : List (Tr α)} (h : Raw P X) : X = [] ↔ P = [] := by
  constructor
  · rintro rfl
    cases P with
    | nil => rfl
    | cons p P =>
      obtain ⟨x, hx, _⟩ := h.dom p (by simp)
      cases hx
  · rintro rfl
    have := h.len
    exact List.eq_nil_of_length_eq_zero (by simpa using this)
end put
/-! values one after the other -/
section prod
variable {α β : Type}
def one0P : Pr (List α) := [([], [])]
def one0T : List (Tr (List α)) := [⟨[], 1, []⟩]
theorem raw_one0 : Raw (one0P : Pr (List α)) one0T := Raw.self one0P
def behP (ch : Row) (P : Pr β) : Pr β := P.map fun p => (p.1, p.2 ++ ch)
def behT (ch : Row) (X : List (Tr β)) : List (Tr β) := X.map fun x => ⟨x.v, x.c, x.r ++ ch⟩
def frontP (k : Int) (P : Pr β) : Pr β := P.map fun p => (p.1, k :: p.2)
def frontT (k : Int) (X : List (Tr β)) : List (Tr β) := X.map fun x => ⟨x.v, x.c, k :: x.r⟩
theorem raw_rows {P : Pr β} {X : List (Tr β)} (f : Row → Row) (hf : ∀ a b, rle a b → rle (f a) (f b)) (h : Raw P X) : Raw (P.map fun p => (p.1, f p.2)) (X.map fun x => ⟨x.v, x.c, f x.r⟩) where
  sum := fun φ => by
    have a : sumT (X.map fun x => (⟨x.v, x.c, f x.r⟩ : Tr β)) φ = sumT X φ := by unfold sumT; rw [List.map_map]; rfl
    have b : sumP (P.map fun p => (p.1, f p.2)) φ = sumP P φ := by unfold sumP; rw [List.map_map]; rfl
    rw [a, b, h.sum]
  occ := fun x hx => by
    obtain ⟨y, hy, rfl⟩ := List.mem_map.mp hx
    exact List.mem_map.mpr ⟨_, h.occ y hy, rfl⟩
  dom := fun p hp => by
    obtain ⟨q, hq, rfl⟩ := List.mem_map.mp hp
    obtain ⟨x, hx, e, l⟩ := h.dom q hq
    exact ⟨_, List.mem_map_of_mem hx, e, hf _ _ l⟩
  pos := fun x hx => by
    obtain ⟨y, hy, rfl⟩ := List.mem_map.mp hx
    exact h.pos y hy
theorem raw_beh {P : Pr β} {X : List (Tr β)} (ch : Row) (h : Raw P X) : Raw (behP ch P) (behT ch X) := raw_rows (fun r => r ++ ch) (fun a b l => rle_app l (rle_refl ch)) h
theorem raw_front {P : Pr β} {X : List (Tr β)} (k : Int) (h : Raw P X) : Raw (frontP k P) (frontT k X) := raw_rows (fun r => k :: r) (fun a b l => rle_app (rle_refl [k]) l) h
def besP (P : Pr (List α)) (Q : Pr α) : Pr (List α) := P.flatMap fun p => Q.map fun q => (p.1 ++ [q.1], p.2 ++ q.2)
def mulT (X : List (Tr (List α))) (Y : List (Tr α)) : List (Tr (List α)) := X.flatMap fun x => Y.map fun y => ⟨x.v ++ [y.v], x.c * y.c, x.r ++ y.r⟩
theorem besP_bnd (P : Pr (List α)) (Q : Pr α) : besP P Q = bnd P fun vs => mapP (fun v => vs ++ [v]) Q := by
  unfold besP bnd mapP
  simp only [List.map_map]
  rfl
theorem mulT_bnd (P : List (Tr (List α))) (Q : List (Tr α)) : mulT P Q = bndT P fun vs => mapT (fun v => vs ++ [v]) Q := by
  unfold mulT bndT mapT
  simp only [List.map_map]
  rfl
theorem raw_mul {P : Pr (List α)} {Q : Pr α} {X : List (Tr (List α))} {Y : List (Tr α)} (h : Raw P X) (g : Raw Q Y) : Raw (besP P Q) (mulT X Y) := by
  rw [besP_bnd, mulT_bnd]
  exact h.bind fun p _ => g.map _
theorem pf_bes {P : Pr (List α)} {Q : Pr α} (h : PF P) (g : PF Q) : PF (besP P Q) := by
  rw [besP_bnd]
  exact h.bind fun p _ => g.map _
theorem len_fm {γ δ : Type} (f : γ → List δ) (k : Nat) : ∀ (xs : List γ), (∀ x ∈ xs, (f x).length = k) → (xs.flatMap f).length = xs.length * k
  | [], _ => by simp
  | x :: xs, h => by
    rw [List.flatMap_cons, List.length_append, h x (by simp), len_fm f k xs fun y hy => h y (by simp [hy]), List.length_cons, Nat.succ_mul]
    omega
theorem besP_len (P : Pr (List α)) (Q : Pr α) : (besP P Q).length = P.length * Q.length := len_fm _ _ _ fun x _ => by simp
theorem mulT_len (P : List (Tr (List α))) (Q : List (Tr α)) : (mulT P Q).length = P.length * Q.length := len_fm _ _ _ fun x _ => by simp
def timesP (Q : Pr α) : Nat → Pr (List α) → Pr (List α)
  | 0, M => M
  | n + 1, M => timesP Q n (besP M Q)
def timesT (Y : List (Tr α)) : Nat → List (Tr (List α)) → List (Tr (List α))
  | 0, M => M
  | n + 1, M => timesT Y n (mulT M Y)
theorem raw_times {Q : Pr α} {Y : List (Tr α)} (g : Raw Q Y) : ∀ (n : Nat) {M : Pr (List α)} {X : List (Tr (List α))}, Raw M X → Raw (timesP Q n M) (timesT Y n X)
  | 0, _, _, h => h
  | n + 1, _, _, h => raw_times g n (raw_mul h g)
theorem pf_times {Q : Pr α} (g : PF Q) : ∀ (n : Nat) {M : Pr (List α)}, PF M → PF (timesP Q n M)
  | 0, _, h => h
  | n + 1, _, h => pf_times g n (pf_bes h g)
/-- lists: so many more at most -/
def tailP (Q : Pr α) : Nat → Pr (List α) → Pr (List α)
  | 0, M => M
  | n + 1, M => behP [0] M ++ tailP Q n (besP (behP [1] M) Q)
def tailT (Y : List (Tr α)) : Nat → List (Tr (List α)) → List (Tr (List α))
  | 0, M => M
  | n + 1, M => behT [0] M ++ tailT Y n (mulT (behT [1] M) Y)
theorem raw_tail {Q : Pr α} {Y : List (Tr α)} (g : Raw Q Y) : ∀ (n : Nat) {M : Pr (List α)} {X : List (Tr (List α))}, Raw M X → Raw (tailP Q n M) (tailT Y n X)
  | 0, _, _, h => h
  | n + 1, _, _, h => (raw_beh [0] h).app (raw_tail g n (raw_mul (raw_beh [1] h) g))
theorem tail_pre {Q : Pr α} : ∀ (n : Nat) {M : Pr (List α)} {p : List α × Row}, p ∈ tailP Q n M → ∃ m ∈ M, m.2 <+: p.2
  | 0, _, p, h => ⟨p, h, List.prefix_rfl⟩
  | n + 1, M, p, h => by
    rcases List.mem_append.mp h with h | h
    · obtain ⟨m, hm, rfl⟩ := List.mem_map.mp h
      exact ⟨m, hm, List.prefix_append _ _⟩
    · obtain ⟨q, hq, e⟩ := tail_pre n h
      obtain ⟨b, hb, hq⟩ := List.mem_flatMap.mp hq
      obtain ⟨s, hs, rfl⟩ := List.mem_map.mp hq
      obtain ⟨m, hm, rfl⟩ := List.mem_map.mp hb
      exact ⟨m, hm, ((List.prefix_append _ _).trans (List.prefix_append _ _)).trans e⟩
theorem pf_beh {M : Pr β} (ch : Row) (h : PF M) : PF (behP ch M) := by
  unfold PF behP
  rw [List.pairwise_map]
  exact h.imp fun a => a.behind (List.prefix_append _ _) (List.prefix_append _ _)
theorem pf_front {M : Pr β} (k : Int) (h : PF M) : PF (frontP k M) := by
  unfold PF frontP
  rw [List.pairwise_map]
  exact h.imp fun a => a.ahead [k]
theorem PF.ap {M : Pr β} (h : PF M) {a b : β × Row} (ha : a ∈ M) (hb : b ∈ M) : a = b ∨ Apart a.2 b.2 := by
  induction M with
  | nil => cases ha
  | cons m M ih =>
    unfold PF at h
    rw [List.pairwise_cons] at h
    rcases List.mem_cons.mp ha with q1 | ha
    · rcases List.mem_cons.mp hb with q2 | hb
      · exact .inl (q1.trans q2.symm)
      · exact .inr (q1 ▸ h.1 b hb)
    · rcases List.mem_cons.mp hb with q2 | hb
      · exact .inr (q2 ▸ (h.1 a ha).symm)
      · exact ih h.2 ha hb
theorem pf_tail {Q : Pr α} (g : PF Q) : ∀ (n : Nat) {M : Pr (List α)}, PF M → PF (tailP Q n M)
  | 0, _, h => h
  | n + 1, M, h => by
    refine (pf_beh [0] h).app (pf_tail g n (pf_bes (pf_beh [1] h) g)) fun p hp q hq => ?_
    obtain ⟨m, hm, rfl⟩ := List.mem_map.mp hp
    obtain ⟨b, hb, e⟩ := tail_pre n hq
    obtain ⟨b2, hb2, hbq⟩ := List.mem_flatMap.mp hb
    obtain ⟨s, hs, rfl⟩ := List.mem_map.mp hbq
    obtain ⟨m', hm', rfl⟩ := List.mem_map.mp hb2
    have e : (m'.2 ++ [1]) ++ s.2 <+: q.2 := e
    have e2 : m'.2 ++ [1] <+: q.2 := (List.prefix_append _ _).trans e
    rcases h.ap hm hm' with rfl | ap
    · exact ((Apart.head (by decide : (0 : Int) ≠ 1) [] []).ahead m.2).behind List.prefix_rfl e2
    · exact ap.behind (List.prefix_append _ _) ((List.prefix_append _ _).trans e2)
def listP (Q : Pr α) (lo d : Nat) : Pr (List α) := tailP Q d (timesP Q lo one0P)
def listT (Y : List (Tr α)) (lo d : Nat) : List (Tr (List α)) := tailT Y d (timesT Y lo one0T)
theorem pf_one0 : PF (one0P : Pr (List α)) := List.pairwise_singleton _ _
theorem raw_list {Q : Pr α} {Y : List (Tr α)} (g : Raw Q Y) (lo d : Nat) : Raw (listP Q lo d) (listT Y lo d) := raw_tail g d (raw_times g lo raw_one0)
theorem pf_list {Q : Pr α} (g : PF Q) (lo d : Nat) : PF (listP Q lo d) := pf_tail g d (pf_times g lo pf_one0)
def tupP : List (Pr α) → Pr (List α) → Pr (List α)
  | [], M => M
  | Q :: Qs, M => tupP Qs (besP M Q)
def tupT : List (List (Tr α)) → List (Tr (List α)) → List (Tr (List α))
  | [], M => M
  | Q :: Qs, M => tupT Qs (mulT M Q)
theorem raw_tup : ∀ {Qs : List (Pr α)} {Ys : List (List (Tr α))} {M : Pr (List α)} {X : List (Tr (List α))}, Qs.length = Ys.length → (∀ (i : Nat) Q Y, Qs[i]? = some Q → Ys[i]? = some Y → Raw Q Y) → Raw M X → Raw (tupP Qs M) (tupT Ys X)
  | [], [], _, _, _, _, h => h
  | [], _ :: _, _, _, e, _, _ => by simp at e
  | _ :: _, [], _, _, e, _, _ => by simp at e
  | Q :: Qs, Y :: Ys, _, _, e, g, h => raw_tup (Qs := Qs) (Ys := Ys) (by simpa using e) (fun i q y hq hy => g (i + 1) q y (by simpa using hq) (by simpa using hy)) (raw_mul h (g 0 Q Y rfl rfl))
theorem pf_tup : ∀ {Qs : List (Pr α)} {M : Pr (List α)}, (∀ Q ∈ Qs, PF Q) → PF M → PF (tupP Qs M)
  | [], _, _, h => h
  | Q :: Qs, _, g, h => pf_tup (Qs := Qs) (fun q hq => g q (by simp [hq])) (pf_bes h (g Q (by simp)))
def oneP : Nat → List (Pr α) → Pr α
  | _, [] => []
  | k, Q :: Qs => frontP (k : Int) Q ++ oneP (k + 1) Qs
def oneT : Nat → List (List (Tr α)) → List (Tr α)
  | _, [] => []
  | k, Q :: Qs => frontT (k : Int) Q ++ oneT (k + 1) Qs
theorem raw_oneP : ∀ {Qs : List (Pr α)} {Ys : List (List (Tr α))} (k : Nat), Qs.length = Ys.length → (∀ (i : Nat) Q Y, Qs[i]? = some Q → Ys[i]? = some Y → Raw Q Y) → Raw (oneP k Qs) (oneT k Ys)
  | [], [], _, _, _ => .nil
  | [], _ :: _, _, e, _ => by simp at e
  | _ :: _, [], _, e, _ => by simp at e
  | Q :: Qs, Y :: Ys, k, e, g => (raw_front (k : Int) (g 0 Q Y rfl rfl)).app (raw_oneP (Qs := Qs) (Ys := Ys) (k + 1) (by simpa using e) fun i q y hq hy => g (i + 1) q y (by simpa using hq) (by simpa using hy))
theorem oneP_head : ∀ {Qs : List (Pr α)} {k : Nat} {p : α × Row}, p ∈ oneP k Qs → ∃ (j : Nat) (r : Row), k ≤ j ∧ p.2 = (j : Int) :: r
  | [], _, _, h => by cases h
  | Q :: Qs, k, p, h => by
    rcases List.mem_append.mp h with h | h
    · obtain ⟨q, hq, rfl⟩ := List.mem_map.mp h
      exact ⟨k, q.2, Nat.le_refl _, rfl⟩
    · obtain ⟨j, r, l, e⟩ := oneP_head h
      exact ⟨j, r, by omega, e⟩
theorem pf_oneP : ∀ {Qs : List (Pr α)} (k : Nat), (∀ Q ∈ Qs, PF Q) → PF (oneP k Qs)
  | [], _, _ => .nil
  | Q :: Qs, k, g => by
    refine (pf_front (k : Int) (g Q (by simp))).app (pf_oneP (k + 1) fun q hq => g q (by simp [hq])) fun p hp q hq => ?_
    obtain ⟨m, hm, rfl⟩ := List.mem_map.mp hp
    obtain ⟨j, r, l, e⟩ := oneP_head hq
    rw [e]
    exact Apart.head (by omega) _ _
/-- repeats: a first part that tells how many -/
def repP (num : α → Nat) (ok : α → Bool) (P : Pr α) (Q : Pr β) : Pr (List β) := bnd (P.filter fun p => ok p.1) fun v => timesP Q (num v) one0P
def repT (num : α → Nat) (ok : α → Bool) (X : List (Tr α)) (Y : List (Tr β)) : List (Tr (List β)) := bndT (X.filter fun x => ok x.v) fun v => timesT Y (num v) one0T
theorem raw_rep {num : α → Nat} {ok : α → Bool} {P : Pr α} {Q : Pr β} {X : List (Tr α)} {Y : List (Tr β)} (h : Raw P X) (g : Raw Q Y) : Raw (repP num ok P Q) (repT num ok X Y) :=
  (h.filter ok).bind fun p _ => raw_times g _ raw_one0
theorem pf_rep {num : α → Nat} {ok : α → Bool} {P : Pr α} {Q : Pr β} (h : PF P) (g : PF Q) : PF (repP num ok P Q) :=
  (h.filter _).bind fun p _ => pf_times g _ pf_one0
theorem times_scaleT (Y : List (Tr β)) (c : Int) (r : Row) : ∀ (n : Nat) (M : List (Tr (List β))), timesT Y n (M.map fun m => ⟨m.v, c * m.c, r ++ m.r⟩) = (timesT Y n M).map fun m => ⟨m.v, c * m.c, r ++ m.r⟩
  | 0, M => rfl
  | n + 1, M => by
    show timesT Y n (mulT _ Y) = (timesT Y n (mulT M Y)).map _
    rw [← times_scaleT Y c r n (mulT M Y)]
    congr 1
    unfold mulT
    rw [List.flatMap_map, List.map_flatMap]
    congr 1
    funext m
    rw [List.map_map]
    refine List.map_congr_left fun y _ => ?_
    simp [Int.mul_assoc]
theorem times_scaleP (Y : Pr β) (r : Row) : ∀ (n : Nat) (M : Pr (List β)), timesP Y n (M.map fun m => (m.1, r ++ m.2)) = (timesP Y n M).map fun m => (m.1, r ++ m.2)
  | 0, M => rfl
  | n + 1, M => by
    show timesP Y n (besP _ Y) = (timesP Y n (besP M Y)).map _
    rw [← times_scaleP Y r n (besP M Y)]
    congr 1
    unfold besP
    rw [List.flatMap_map, List.map_flatMap]
    congr 1
    funext m
    rw [List.map_map]
    refine List.map_congr_left fun y _ => ?_
    simp
/-- as the program goes -/
theorem repT_eq (num : α → Nat) (ok : α → Bool) (X : List (Tr α)) (Y : List (Tr β)) : repT num ok X Y = (X.filter fun x => ok x.v).flatMap fun x => timesT Y (num x.v) [⟨[], x.c, x.r⟩] := by
  unfold repT bndT
  congr 1
  funext x
  rw [← times_scaleT]
  congr 1
  simp [one0T]
theorem repP_eq (num : α → Nat) (ok : α → Bool) (X : Pr α) (Y : Pr β) : repP num ok X Y = (X.filter fun x => ok x.1).flatMap fun x => timesP Y (num x.1) [([], x.2)] := by
  unfold repP bnd
  congr 1
  funext x
  rw [← times_scaleP]
  congr 1
  simp [one0P]
end prod
end Dv

namespace Dv
open PySem PySem.Spec L2
/-! tables as data; loops turn by turn -/
theorem forL_nxc {body : D → Sto → Fl} {d : D} {ds : List D} {S S' : Sto} (h : body d S = .nx S') : forL body (d :: ds) S = forL body ds S' := by
  rw [forL, h]
theorem forL_exc {body : D → Sto → Fl} {d : D} {ds : List D} {S S' : Sto} {x : Xc} (h : body d S = .exc x S') : forL body (d :: ds) S = .exc x S' := by
  rw [forL, h]
theorem rng_succ (i : Nat) (n : Nat) : rng (i : Int) (n + 1) = .int i :: rng ((i + 1 : Nat) : Int) n := by
  unfold rng
  rw [List.range_succ_eq_map, List.map_cons, List.map_map]
  congr 1
  refine List.map_congr_left fun k _ => ?_
  simp
  omega
theorem rng_zero (i : Int) : rng i 0 = [] := rfl
def tuD (r : List Int) : D := .tuple (zs r)
def tdF {α : Type} (e : α → D) (t : Tr α) : D := .tuple [e t.v, .int t.c, tuD t.r]
abbrev td (t : Tr D) : D := tdF (fun d => d) t
abbrev tdL (t : Tr (List D)) : D := tdF PyData.tuple t
theorem tdL_map (X : List (Tr (List D))) : X.map tdL = (mapT PyData.tuple X).map td := by
  unfold mapT
  rw [List.map_map]
  rfl
theorem add_tuD {a b : List Int} (h : a.length + b.length ≤ 1000000) : dAddL (tuD a) (tuD b) = some (tuD (a ++ b)) := by
  unfold tuD
  rw [ao_tuple, if_pos (small (by simpa using h)), zs_app]
theorem tuD_len (r : List Int) : dLen (tuD r) = some (.int r.length) := by simp [tuD]
/-- so many values at most, so many choices -/
def FitL (l m : Nat) (X : List (Tr (List D))) : Prop := ∀ x ∈ X, x.v.length ≤ l ∧ x.r.length ≤ m
def SmY (m : Nat) (Y : List (Tr D)) : Prop := ∀ y ∈ Y, (0 ≤ y.c ∧ y.c ≤ 1000000) ∧ y.r.length ≤ m
theorem FitL.mul {l m b : Nat} {X : List (Tr (List D))} {Y : List (Tr D)} (h : FitL l m X) (g : SmY b Y) : FitL (l + 1) (m + b) (mulT X Y) := fun z hz => by
  obtain ⟨x, hx, hz⟩ := List.mem_flatMap.mp hz
  obtain ⟨y, hy, rfl⟩ := List.mem_map.mp hz
  have a := h x hx
  have b := (g y hy).2
  simp
  omega
theorem FitL.beh {l m : Nat} {X : List (Tr (List D))} (h : FitL l m X) (c : Int) : FitL l (m + 1) (behT [c] X) := fun z hz => by
  obtain ⟨x, hx, rfl⟩ := List.mem_map.mp hz
  have a := h x hx
  simp
  omega
theorem FitL.mono {l m l' m' : Nat} {X : List (Tr (List D))} (h : FitL l m X) (h1 : l ≤ l') (h2 : m ≤ m') : FitL l' m' X := fun x hx => ⟨Nat.le_trans (h x hx).1 h1, Nat.le_trans (h x hx).2 h2⟩
theorem fit_one0 : FitL 0 0 (one0T : List (Tr (List D))) := fun x hx => by
  rw [List.mem_singleton.mp hx]
  exact ⟨Nat.le_refl _, Nat.le_refl _⟩
section len
variable {α : Type}
theorem behT_len (ch : Row) (X : List (Tr α)) : (behT ch X).length = X.length := by simp [behT]
theorem timesT_snoc (Y : List (Tr α)) : ∀ (n : Nat) (M : List (Tr (List α))), timesT Y (n + 1) M = mulT (timesT Y n M) Y
  | 0, M => rfl
  | n + 1, M => timesT_snoc Y n (mulT M Y)
theorem timesT_len (Y : List (Tr α)) : ∀ (n : Nat) (M : List (Tr (List α))), (timesT Y n M).length = M.length * Y.length ^ n
  | 0, M => by simp [timesT]
  | n + 1, M => by rw [timesT, timesT_len Y n, mulT_len, Nat.pow_succ, Nat.mul_assoc, Nat.mul_comm Y.length]
theorem timesP_len (Y : Pr α) : ∀ (n : Nat) (M : Pr (List α)), (timesP Y n M).length = M.length * Y.length ^ n
  | 0, M => by simp [timesP]
  | n + 1, M => by rw [timesP, timesP_len Y n, besP_len, Nat.pow_succ, Nat.mul_assoc, Nat.mul_comm Y.length]
theorem tailT_ge (Y : List (Tr α)) : ∀ (n : Nat) (M : List (Tr (List α))), M.length ≤ (tailT Y n M).length
  | 0, M => Nat.le_refl _
  | n + 1, M => by rw [tailT, List.length_append, behT_len]; omega
def sumPow (b lo d : Nat) : Nat := ((List.range (d + 1)).map fun k => b ^ (lo + k)).sum
theorem tail_sum (b d m : Nat) : ((List.range (d + 1 + 1)).map fun k => m * b ^ k).sum = m + ((List.range (d + 1)).map fun k => (m * b) * b ^ k).sum := by
  rw [List.range_succ_eq_map (n := d + 1)]
  simp only [List.map_cons, List.sum_cons, List.map_map, Nat.pow_zero, Nat.mul_one]
  congr 2
  refine List.map_congr_left fun k _ => ?_
  simp [Nat.pow_succ, Nat.mul_assoc, Nat.mul_comm b]
theorem le_sum_mem : ∀ {xs : List Nat} {x : Nat}, x ∈ xs → x ≤ xs.sum
  | y :: xs, x, h => by
    rw [List.sum_cons]
    rcases List.mem_cons.mp h with rfl | h
    · omega
    · have := le_sum_mem h
      omega
theorem tailT_len (Y : List (Tr α)) : ∀ (d : Nat) (M : List (Tr (List α))), (tailT Y d M).length = ((List.range (d + 1)).map fun k => M.length * Y.length ^ k).sum
  | 0, M => by simp [tailT]
  | d + 1, M => by
    rw [tailT, List.length_append, behT_len, tailT_len Y d, mulT_len, behT_len, tail_sum]
theorem listT_len (Y : List (Tr α)) (lo d : Nat) : (listT Y lo d).length = sumPow Y.length lo d := by
  unfold listT sumPow
  rw [tailT_len, timesT_len]
  congr 1
  refine List.map_congr_left fun k _ => ?_
  simp [one0T, Nat.pow_add]
theorem tailP_len (Y : Pr α) : ∀ (d : Nat) (M : Pr (List α)), (tailP Y d M).length = ((List.range (d + 1)).map fun k => M.length * Y.length ^ k).sum
  | 0, M => by simp [tailP]
  | d + 1, M => by
    have e : ∀ c, (behP c M).length = M.length := fun c => by simp [behP]
    rw [tailP, List.length_append, e, tailP_len Y d, besP_len, e, tail_sum]
theorem listP_len (Y : Pr α) (lo d : Nat) : (listP Y lo d).length = sumPow Y.length lo d := by
  unfold listP sumPow
  rw [tailP_len, timesP_len]
  congr 1
  refine List.map_congr_left fun k _ => ?_
  simp [one0P, Nat.pow_add]
theorem sumPow_mono {a b : Nat} (h : a ≤ b) (lo d : Nat) : sumPow a lo d ≤ sumPow b lo d := by
  unfold sumPow
  induction List.range (d + 1) with
  | nil => exact Nat.le_refl _
  | cons x xs ih =>
    simp only [List.map_cons, List.sum_cons]
    have := Nat.pow_le_pow_left h (lo + x)
    omega
theorem pow_le_sumPow (b lo d k : Nat) (h : k ≤ d) : b ^ (lo + k) ≤ sumPow b lo d := by
  unfold sumPow
  have : b ^ (lo + k) ∈ (List.range (d + 1)).map fun k => b ^ (lo + k) := List.mem_map.mpr ⟨k, by simp; omega, rfl⟩
  exact le_sum_mem this
end len
theorem FitL.times {Y : List (Tr D)} {b : Nat} (g : SmY b Y) : ∀ (n : Nat) {l m : Nat} {M : List (Tr (List D))}, FitL l m M → FitL (l + n) (m + n * b) (timesT Y n M)
  | 0, l, m, M, h => h.mono (by omega) (by omega)
  | n + 1, l, m, M, h => (FitL.times g n (h.mul g)).mono (by omega) (by rw [Nat.succ_mul]; omega)
end Dv

namespace Dv
open PySem PySem.Spec L2
/-! rows as keys -/
theorem lexL_lt : ∀ a b : Row, lexL a b = decide (a < b)
  | [], [] => by simp [lexL]
  | [], _ :: _ => by simp [lexL]
  | _ :: _, [] => by simp [lexL]
  | a :: as, b :: bs => by
    rw [lexL, lexL_lt as bs, Bool.eq_iff_iff]
    simp [List.cons_lt_cons_iff]
def keyRD (r : Row) : D := .tuple [.int r.length, tuD r]
theorem tuD_depth (r : Row) : (tuD r).depth = 1 := by simp [tuD, PyData.depth, zs]
theorem keyRD_depth (r : Row) : (keyRD r).depth ≤ 2 := by simp [keyRD, PyData.depth, PyData.depthAll, tuD_depth]
theorem tuD_alike (a b : Row) : PySem.W.alike (tuD a) (tuD b) = true := by
  have := PySem.W.alike_ints a b
  simpa [tuD, PySem.W.alike, zs] using this
theorem keyRD_alike (a b : Row) : PySem.W.alike (keyRD a) (keyRD b) = true := by
  have := tuD_alike a b
  simp [keyRD, PySem.W.alike, PySem.W.alikeAll, this]
theorem tuD_eqv (a b : Row) : PyData.eqv (tuD a) (tuD b) = decide (a = b) := by rw [tuD, tuD, PyData.eqv, zs, zs, eqv_ints]
theorem eq_tuD (a b : Row) : dEq (tuD a) (tuD b) = some (.bool (decide (a = b))) := by
  rw [dEq, if_pos (by rw [tuD_depth]; omega), tuD_eqv]
theorem ne_tuD (a b : Row) : dNe (tuD a) (tuD b) = some (.bool (decide (a ≠ b))) := by
  rw [dNe, if_pos (by rw [tuD_depth]; omega), tuD_eqv]
  simp
theorem tuD_lt (a b : Row) : PySem.W.dataLt (tuD a) (tuD b) = lexL a b := by
  rw [lexL_lt, ← PySem.W.dataLt_ints]
  exact PySem.W.dataLt_tuple _ _
theorem keyRD_lt (a b : Row) : PySem.W.dataLt (keyRD a) (keyRD b) = rowLt a b := by
  rw [keyRD, keyRD, PySem.W.dataLt_pair (by simp [PySem.W.alike]) (tuD_alike a b), tuD_eqv, tuD_lt, PySem.W.dataLt_int]
  simp only [PyData.eqv, beq_iff_eq]
  unfold rowLt
  by_cases h : a.length = b.length
  · have h' : ((a.length : Int)) = b.length := by omega
    have n : ¬ a.length < b.length := by omega
    by_cases e : a = b
    · subst e; simp [lexL_irr]
    · simp [h', h, e]
  · have h' : ¬ ((a.length : Int)) = b.length := by omega
    simp [h', h]
theorem lt_keyRD (a b : Row) : dLt (keyRD a) (keyRD b) = some (.bool (rowLt a b)) := by
  have h : PySem.W.alike (keyRD a) (keyRD b) = true ∧ notNone (keyRD a) = true ∧ min (keyRD a).depth (keyRD b).depth ≤ 60 := ⟨keyRD_alike a b, rfl, by have := keyRD_depth a; omega⟩
  rw [← keyRD_lt]
  exact if_pos h
theorem dep_le {xs : List D} {k : Nat} (h : ∀ d ∈ xs, d.depth ≤ k) : PyData.depthAll xs ≤ k := by
  induction xs with
  | nil => exact Nat.zero_le _
  | cons x r ih =>
    simp only [PyData.depthAll]
    have a := h x List.mem_cons_self
    have b := ih fun d hd => h d (List.mem_cons_of_mem _ hd)
    omega
theorem keysRD_ok {α : Type} (f : α → Row) (X : List α) : allAlike (X.map fun x => keyRD (f x)) = true ∧ sortable (X.map fun x => keyRD (f x)) = true ∧ PyData.depthAll (X.map fun x => keyRD (f x)) ≤ 60 := by
  refine ⟨?_, ?_, ?_⟩
  · unfold allAlike
    rw [List.all_eq_true]
    intro x hx
    obtain ⟨a, _, rfl⟩ := List.mem_map.mp hx
    rw [List.all_eq_true]
    intro y hy
    obtain ⟨b, _, rfl⟩ := List.mem_map.mp hy
    exact keyRD_alike _ _
  · unfold sortable
    rw [Bool.or_eq_true]
    left
    rw [List.all_eq_true]
    intro x hx
    obtain ⟨a, _, rfl⟩ := List.mem_map.mp hx
    rfl
  · exact dep_le fun d hd => by
      obtain ⟨r, _, rfl⟩ := List.mem_map.mp hd
      have := keyRD_depth (f r)
      omega
theorem min_keyRD (a b : Row) : dMin1 (.list [keyRD a, keyRD b]) = some (keyRD (minR a b)) := by
  obtain ⟨h1, h2, h3⟩ := keysRD_ok (fun r : Row => r) [a, b]
  simp only [List.map_cons, List.map_nil] at h1 h3
  have n : ([keyRD a, keyRD b].all notNone) = true := rfl
  have c : (allAlike [keyRD a, keyRD b] && ![keyRD a, keyRD b].isEmpty && decide (PyData.depthAll [keyRD a, keyRD b] ≤ 60) && [keyRD a, keyRD b].all notNone) = true := by
    rw [h1, decide_eq_true h3, n]
    rfl
  refine (if_pos c).trans ?_
  congr 1
  show (if PySem.W.dataLt (keyRD b) (keyRD a) then keyRD b else keyRD a) = _
  rw [keyRD_lt]
  unfold minR
  split <;> rfl
/-- sorted by what stands behind as row -/
theorem sortK_rowsD {α : Type} (ky : Ky) (e : α → D) (f : α → Row) (X : List α) (hk : ∀ x ∈ X, kyE ky (e x) = some (keyRD (f x))) (hn : ∀ x ∈ X, nolD (e x) = true) :
    dSortK ky (.list (X.map e)) = some ((X.mergeSort fun a b => !rowLt (f b) (f a)).map e) := by
  have e1 : (X.map e).map (keyD ky) = X.map fun x => keyRD (f x) := by
    rw [List.map_map]
    refine List.map_congr_left fun x hx => ?_
    show (kyE ky (e x)).getD .none = _
    rw [hk x hx]
    rfl
  obtain ⟨k1, k2, k3⟩ := keysRD_ok f X
  have k4 : ((X.map e).all fun d => (kyE ky d).isSome && nolD d) = true := by
    rw [List.all_eq_true]
    intro d hd
    obtain ⟨x, hx, rfl⟩ := List.mem_map.mp hd
    rw [hk x hx, hn x hx]
    rfl
  unfold dSortK
  dsimp only
  rw [e1, k1, k2, k4, decide_eq_true k3, if_pos (by rfl)]
  refine congrArg some ?_
  refine (PySem.W.sort_maps (r := fun a b => !rowLt (f b) (f a)) (s := PySem.W.dataLe false (keyD ky)) (l := X) e fun a ha b hb => ?_).symm
  show (!rowLt (f b) (f a)) = !PySem.W.dataLt (keyD ky (e b)) (keyD ky (e a))
  unfold keyD
  rw [hk a ha, hk b hb, Option.getD_some, Option.getD_some, keyRD_lt]
theorem tuD_nol (r : Row) : nolD (tuD r) = true := by
  simp only [tuD, nolD, zs]
  induction r with
  | nil => rfl
  | cons a r ih => simpa [nolDs, nolD] using ih
end Dv
namespace Dv
open PySem PySem.Spec L2
/-! triples as a dict -/
def kvT (t : Tr D) : D × D := (t.v, .tuple [.int t.c, tuD t.r])
/-- all may be keys of one dict -/
def Keyed (ks : List D) : Prop := (∀ k ∈ ks, (kOf k).isSome = true) ∨ (∀ k ∈ ks, (ktOf k).isSome = true)
theorem Keyed.sub {ks ls : List D} (h : Keyed ks) (s : ∀ l ∈ ls, l ∈ ks) : Keyed ls := by
  rcases h with h | h
  · exact .inl fun l hl => h l (s l hl)
  · exact .inr fun l hl => h l (s l hl)
theorem Keyed.nk {ks : List D} (h : Keyed ks) {k : D} (hk : k ∈ ks) : ∃ n, nkOf k = some n := by
  rcases h with h | h
  · obtain ⟨n, e⟩ := Option.isSome_iff_exists.mp (h k hk)
    exact ⟨_, kOf_nk e⟩
  · obtain ⟨n, e⟩ := Option.isSome_iff_exists.mp (h k hk)
    exact ⟨_, (ktOf_nk e).1⟩
theorem Keyed.same {ks : List D} (h : Keyed ks) {k : D} (hk : k ∈ ks) (b : D) : sameK k b = true ↔ k = b := by
  obtain ⟨n, e⟩ := h.nk hk
  exact sameK_iff e
theorem Keyed.ok {ks : List D} (h : Keyed ks) {kvs : List (D × D)} (s : ∀ p ∈ kvs, p.1 ∈ ks) {k : D} (hk : k ∈ ks) : keyOk kvs k = true := by
  unfold keyOk
  rcases h with h | h
  · have b : (kvs.all fun p => (kOf p.1).isSome) = true := List.all_eq_true.mpr fun p hp => h _ (s p hp)
    rw [h k hk, b]; rfl
  · have b : (kvs.all fun p => (ktOf p.1).isSome) = true := List.all_eq_true.mpr fun p hp => h _ (s p hp)
    rw [h k hk, b, Bool.and_self, Bool.or_true]
theorem getKV_none {ks : List D} (h : Keyed ks) {kvs : List (D × D)} (s : ∀ p ∈ kvs, p.1 ∈ ks) {k : D} (n : ∀ p ∈ kvs, p.1 ≠ k) : getKV kvs k = none := by
  unfold getKV
  have : kvs.find? (fun p => sameK p.1 k) = none := by
    rw [List.find?_eq_none]
    intro p hp e
    exact n p hp ((h.same (s p hp) k).mp e)
  rw [this]
  rfl
theorem getKV_some {ks : List D} (h : Keyed ks) {kvs : List (D × D)} (s : ∀ p ∈ kvs, p.1 ∈ ks) {k d : D} (m : (k, d) ∈ kvs) (u : ∀ p ∈ kvs, p.1 = k → p.2 = d) : getKV kvs k = some d := by
  unfold getKV
  cases q : kvs.find? (fun p => sameK p.1 k) with
  | none =>
    rw [List.find?_eq_none] at q
    exact absurd ((h.same (s _ m) k).mpr rfl) (q _ m)
  | some p =>
    have a := List.mem_of_find?_eq_some q
    have b := List.find?_some q
    rw [Option.map_some, u p a ((h.same (s p a) k).mp b)]
theorem putKV_new {ks : List D} (h : Keyed ks) {kvs : List (D × D)} (s : ∀ p ∈ kvs, p.1 ∈ ks) {k d : D} (n : ∀ p ∈ kvs, p.1 ≠ k) : putKV kvs k d = kvs ++ [(k, d)] := by
  unfold putKV
  rw [if_neg]
  rw [List.any_eq_true]
  rintro ⟨p, hp, e⟩
  exact n p hp ((h.same (s p hp) k).mp e)
open Classical in
theorem putKV_old {ks : List D} (h : Keyed ks) {kvs : List (D × D)} (s : ∀ p ∈ kvs, p.1 ∈ ks) {k d : D} (m : ∃ p ∈ kvs, p.1 = k) (hk : k ∈ ks) : putKV kvs k d = kvs.map fun p => if p.1 = k then (p.1, d) else p := by
  unfold putKV
  rw [if_pos]
  · refine List.map_congr_left fun p hp => ?_
    by_cases e : p.1 = k
    · rw [if_pos ((h.same (s p hp) k).mpr e), if_pos e]
    · rw [if_neg (fun q => e ((h.same (s p hp) k).mp q)), if_neg e]
  · rw [List.any_eq_true]
    obtain ⟨p, hp, e⟩ := m
    exact ⟨p, hp, (h.same (s p hp) k).mpr e⟩
theorem putOne_len (U : List (Tr D)) (x : Tr D) : (putOne U x).length ≤ U.length + 1 := by
  unfold putOne
  split
  · simp
  · simp
theorem putT_len (X : List (Tr D)) : (putT X).length ≤ X.length := by
  have : ∀ (X U : List (Tr D)), (X.foldl putOne U).length ≤ U.length + X.length := by
    intro X
    induction X with
    | nil => intro U; simp
    | cons x X ih =>
      intro U
      have := ih (putOne U x)
      have := putOne_len U x
      simp only [List.foldl_cons, List.length_cons]
      omega
  simpa [putT] using this X []
theorem putT_v {X : List (Tr D)} {u : Tr D} (h : u ∈ putT X) : u.v ∈ X.map (·.v) := by
  obtain ⟨x, hx, e, _⟩ := (grp_all X).occ u h
  rw [← e]
  exact List.mem_map_of_mem hx
open Classical in
theorem put_old {U : List (Tr D)} {x u : Tr D} {ks : List D} (h : Keyed ks) (s : ∀ w ∈ U, w.v ∈ ks) (hn : (U.map (·.v)).Nodup) (hu : u ∈ U) (e : u.v = x.v) :
    getKV (U.map kvT) x.v = some (.tuple [.int u.c, tuD u.r]) ∧ putKV (U.map kvT) x.v (.tuple [.int (x.c + u.c), tuD (minR x.r u.r)]) = (putOne U x).map kvT := by
  have s' : ∀ p ∈ U.map kvT, p.1 ∈ ks := fun p hp => by
    obtain ⟨w, hw, rfl⟩ := List.mem_map.mp hp
    exact s w hw
  have m : x.v ∈ U.map (·.v) := e ▸ List.mem_map_of_mem (f := fun t : Tr D => t.v) hu
  constructor
  · refine getKV_some h s' (List.mem_map.mpr ⟨u, hu, by rw [← e]; rfl⟩) fun p hp ep => ?_
    obtain ⟨w, hw, rfl⟩ := List.mem_map.mp hp
    rw [nd_eq hn hw hu (ep.trans e.symm)]
    rfl
  · rw [putKV_old h s' ⟨kvT u, List.mem_map_of_mem hu, e⟩ (e ▸ s u hu)]
    unfold putOne
    rw [if_pos m, List.map_map, List.map_map]
    refine List.map_congr_left fun w hw => ?_
    show (if w.v = x.v then (w.v, _) else kvT w) = kvT (if w.v = x.v then _ else w)
    by_cases q : w.v = x.v
    · rw [if_pos q, if_pos q, nd_eq hn hw hu (q.trans e.symm)]
      rfl
    · rw [if_neg q, if_neg q]
theorem put_new {U : List (Tr D)} {x : Tr D} {ks : List D} (h : Keyed ks) (s : ∀ w ∈ U, w.v ∈ ks) (n : x.v ∉ U.map (·.v)) :
    getKV (U.map kvT) x.v = none ∧ putKV (U.map kvT) x.v (.tuple [.int x.c, tuD x.r]) = (putOne U x).map kvT := by
  have s' : ∀ p ∈ U.map kvT, p.1 ∈ ks := fun p hp => by
    obtain ⟨w, hw, rfl⟩ := List.mem_map.mp hp
    exact s w hw
  have n' : ∀ p ∈ U.map kvT, p.1 ≠ x.v := fun p hp e => by
    obtain ⟨w, hw, rfl⟩ := List.mem_map.mp hp
    exact n (e ▸ List.mem_map_of_mem (f := fun t : Tr D => t.v) hw)
  refine ⟨getKV_none h s' n', ?_⟩
  rw [putKV_new h s' n', putOne_new n, List.map_append]
  rfl
end Dv

namespace Dv
open PySem PySem.Spec L2
/-! values that may be keys; what is known of a generator's rows -/
def NV (h : Nat) (d : D) : Prop := (∃ k, nkOf d = some k ∧ k.depth ≤ h) ∧ nolD d = true
theorem NV.int {h : Nat} (i : Int) : NV h (.int i) := ⟨⟨_, rfl, by simp [NestedKey.depth]⟩, rfl⟩
theorem NV.str {h : Nat} (x : Str) : NV h (.str x) := ⟨⟨_, rfl, by simp [NestedKey.depth]⟩, rfl⟩
theorem NV.mono {h h' : Nat} {d : D} (n : NV h d) (l : h ≤ h') : NV h' d := let ⟨⟨k, a, b⟩, c⟩ := n; ⟨⟨k, a, Nat.le_trans b l⟩, c⟩
theorem nks_of {h : Nat} : ∀ {ds : List D}, (∀ d ∈ ds, NV h d) → (∃ ks, nksOf ds = some ks ∧ NestedKey.depthAll ks ≤ h) ∧ nolDs ds = true
  | [], _ => ⟨⟨[], rfl, Nat.zero_le _⟩, rfl⟩
  | d :: ds, n => by
    obtain ⟨⟨k, a, b⟩, c⟩ := n d (by simp)
    obtain ⟨⟨ks, a2, b2⟩, c2⟩ := nks_of (ds := ds) fun e he => n e (by simp [he])
    refine ⟨⟨k :: ks, ?_, ?_⟩, ?_⟩
    · simp only [nksOf, a, a2, Option.bind_some, Option.map_some]
    · simp only [NestedKey.depthAll]; omega
    · simp only [nolDs, c, c2, Bool.and_self]
theorem NV.tup {h : Nat} {ds : List D} (n : ∀ d ∈ ds, NV h d) : NV (h + 1) (.tuple ds) := by
  obtain ⟨⟨ks, a, b⟩, c⟩ := nks_of n
  refine ⟨⟨.tup ks, ?_, ?_⟩, c⟩
  · simp only [nkOf, a, Option.map_some]
  · simp only [NestedKey.depth]; omega
def isTp : D → Bool
  | .tuple _ => true
  | _ => false
theorem NV.kt {ds : List D} (n : NV 8 (.tuple ds)) : (ktOf (.tuple ds)).isSome = true := by
  obtain ⟨⟨k, a, b⟩, _⟩ := n
  unfold ktOf
  simp only [a, Option.bind_some, if_pos b, Option.isSome_some]
theorem NV.kf {d : D} {h : Nat} (n : NV h d) (t : isTp d = false) : (kOf d).isSome = true := by
  obtain ⟨⟨k, a, b⟩, _⟩ := n
  cases d with
  | int i => rfl
  | str x => rfl
  | tuple ds => cases t
  | none => cases a
  | bool b => cases a
  | list ds => cases a
  | dict ds => cases a
theorem keyed_of {ks : List D} {t : Bool} (n : ∀ k ∈ ks, NV 8 k ∧ isTp k = t) : Keyed ks := by
  cases t with
  | true =>
    right
    intro k hk
    obtain ⟨a, b⟩ := n k hk
    cases k with
    | tuple ds => exact a.kt
    | _ => cases b
  | false => exact .inl fun k hk => (n k hk).1.kf (n k hk).2
structure GPd (h m : Nat) (t : Bool) (P : Pr D) : Prop where
  pf : PF P
  rows : ∀ p ∈ P, p.2.length ≤ m
  vals : ∀ p ∈ P, NV h p.1 ∧ isTp p.1 = t
theorem GPd.mono {h m h' m' : Nat} {t : Bool} {P : Pr D} (g : GPd h m t P) (a : h ≤ h') (b : m ≤ m') : GPd h' m' t P := ⟨g.pf, fun p hp => Nat.le_trans (g.rows p hp) b, fun p hp => ⟨(g.vals p hp).1.mono a, (g.vals p hp).2⟩⟩
/-- the table of values with their rows -/
noncomputable def tabOf {α : Type} (P : Pr α) : List (Tr α) := srtT (putT (P.map fun p => ⟨p.1, 1, p.2⟩))
theorem isTab_tabOf {α : Type} {P : Pr α} (h : PF P) : IsTab P (tabOf P) := isTab_put (Raw.self P) h.nodup
theorem tabOf_eq {α : Type} {P : Pr α} (h : PF P) {X : List (Tr α)} (r : Raw P X) : srtT (putT X) = tabOf P := (isTab_put r h.nodup).uniq (isTab_tabOf h) (List.Perm.refl _)
theorem tabOf_len {α : Type} {P : Pr α} (h : PF P) : (tabOf P).length ≤ P.length := (isTab_tabOf h).raw.len
theorem tab_small {P : Pr D} {h m : Nat} {t : Bool} (g : GPd h m t P) (hl : P.length ≤ 1000000) : SmY m (tabOf P) := fun y hy => by
  have r := (isTab_tabOf g.pf).raw
  have a := r.pos y hy
  have b := r.cle hy
  exact ⟨⟨by omega, by omega⟩, r.rle g.rows hy⟩
theorem tab_nil {α : Type} {P : Pr α} (h : PF P) : tabOf P = [] ↔ P = [] := (isTab_tabOf h).raw.empty
/-- as many as there are values, if these are different -/
theorem tabOf_len_eq {α : Type} {P : Pr α} (h : PF P) (n : (P.map (·.1)).Nodup) : (tabOf P).length = P.length := by
  have t := isTab_tabOf h
  have p : ((tabOf P).map (·.v)).Perm (P.map (·.1)) := (List.perm_ext_iff_of_nodup t.vnd n).mpr fun v => by
    constructor
    · intro hv
      obtain ⟨x, hx, rfl⟩ := List.mem_map.mp hv
      exact List.mem_map.mpr ⟨_, t.raw.occ x hx, rfl⟩
    · intro hv
      obtain ⟨p, hp, rfl⟩ := List.mem_map.mp hv
      obtain ⟨x, hx, e, _⟩ := t.raw.dom p hp
      exact List.mem_map.mpr ⟨x, hx, e⟩
  simpa using p.length_eq
end Dv

namespace Dv
open PySem PySem.Spec L2
/-! rows and values of products -/
def RV (C : D → Prop) (q : Nat) (M : Pr (List D)) : Prop := ∀ p ∈ M, (∀ d ∈ p.1, C d) ∧ p.2.length ≤ q
def RV1 (C : D → Prop) (m : Nat) (Q : Pr D) : Prop := ∀ p ∈ Q, C p.1 ∧ p.2.length ≤ m
section
variable {C : D → Prop} {q m : Nat} {M : Pr (List D)} {Q : Pr D}
theorem RV.one0 : RV C 0 one0P := fun p hp => by
  rw [List.mem_singleton.mp hp]
  exact ⟨fun d hd => (by cases hd), Nat.le_refl _⟩
theorem RV.mono {q' : Nat} (h : RV C q M) (l : q ≤ q') : RV C q' M := fun p hp => ⟨(h p hp).1, Nat.le_trans (h p hp).2 l⟩
theorem RV.bes (h : RV C q M) (g : RV1 C m Q) : RV C (q + m) (besP M Q) := fun p hp => by
  obtain ⟨x, hx, hp⟩ := List.mem_flatMap.mp hp
  obtain ⟨y, hy, rfl⟩ := List.mem_map.mp hp
  have a := h x hx
  have b := g y hy
  refine ⟨fun d hd => ?_, by simp; omega⟩
  rcases List.mem_append.mp hd with hd | hd
  · exact a.1 d hd
  · rw [List.mem_singleton.mp hd]; exact b.1
theorem RV.beh (h : RV C q M) (c : Int) : RV C (q + 1) (behP [c] M) := fun p hp => by
  obtain ⟨x, hx, rfl⟩ := List.mem_map.mp hp
  have a := h x hx
  exact ⟨a.1, by simp; omega⟩
theorem RV.app {N : Pr (List D)} (h : RV C q M) (g : RV C q N) : RV C q (M ++ N) := fun p hp => by
  rcases List.mem_append.mp hp with hp | hp
  · exact h p hp
  · exact g p hp
theorem RV.times (g : RV1 C m Q) : ∀ (n : Nat) {q : Nat} {M : Pr (List D)}, RV C q M → RV C (q + n * m) (timesP Q n M)
  | 0, q, M, h => h.mono (by omega)
  | n + 1, q, M, h => (RV.times g n (h.bes g)).mono (by rw [Nat.succ_mul]; omega)
theorem RV.tail (g : RV1 C m Q) : ∀ (d : Nat) {q : Nat} {M : Pr (List D)}, RV C q M → RV C (q + d * (m + 1)) (tailP Q d M)
  | 0, q, M, h => h.mono (by omega)
  | d + 1, q, M, h => ((h.beh 0).mono (by rw [Nat.succ_mul]; omega)).app ((RV.tail g d ((h.beh 1).bes g)).mono (by rw [Nat.succ_mul]; omega))
theorem RV.list (g : RV1 C m Q) (lo d : Nat) : RV C ((lo + d) * (m + 1)) (listP Q lo d) := (RV.tail g d (RV.times g lo RV.one0)).mono (by
  rw [Nat.add_mul, Nat.mul_add lo]; omega)
theorem RV.tup : ∀ {Qs : List (Pr D)} {q : Nat} {M : Pr (List D)}, (∀ Q ∈ Qs, RV1 C m Q) → RV C q M → RV C (q + Qs.length * m) (tupP Qs M)
  | [], q, M, _, h => h.mono (by simp)
  | Q :: Qs, q, M, g, h => (RV.tup (Qs := Qs) (fun R hR => g R (by simp [hR])) (h.bes (g Q (by simp)))).mono (by rw [List.length_cons, Nat.succ_mul]; omega)
theorem RV.rep {num : D → Nat} {ok : D → Bool} {P : Pr D} {r k : Nat} (g : RV1 C m Q) (hr : ∀ p ∈ P, p.2.length ≤ r) (hk : ∀ p ∈ P, ok p.1 = true → num p.1 ≤ k) : RV C (r + k * m) (repP num ok P Q) := fun p hp => by
  obtain ⟨x, hx, hp⟩ := List.mem_flatMap.mp hp
  obtain ⟨y, hy, rfl⟩ := List.mem_map.mp hp
  obtain ⟨hx, ho⟩ := List.mem_filter.mp hx
  have a := RV.times g (num x.1) RV.one0 y hy
  have b := hr x hx
  have c := Nat.mul_le_mul_right m (hk x hx ho)
  exact ⟨a.1, by simp; omega⟩
end
theorem GPd.rv {h m : Nat} {t : Bool} {P : Pr D} (g : GPd h m t P) : RV1 (NV h) m P := fun p hp => ⟨(g.vals p hp).1, g.rows p hp⟩
theorem gpd_tuple {h q : Nat} {M : Pr (List D)} (pf : PF M) (r : RV (NV h) q M) : GPd (h + 1) q true (mapP PyData.tuple M) where
  pf := pf.map _
  rows := fun p hp => by
    obtain ⟨x, hx, rfl⟩ := List.mem_map.mp hp
    exact (r x hx).2
  vals := fun p hp => by
    obtain ⟨x, hx, rfl⟩ := List.mem_map.mp hp
    exact ⟨NV.tup (r x hx).1, rfl⟩
theorem tabOf_leX {P : Pr D} (h : PF P) {X : List (Tr D)} (r : Raw P X) : (tabOf P).length ≤ X.length := by
  rw [← tabOf_eq h r]
  have := putT_len X
  rw [(srtT_perm _).length_eq]
  exact this
/-- pairs of an int, of a pick -/
def intP (lo : Int) (k : Nat) : Pr D := (List.range k).map fun (i : Nat) => (PyData.int (lo + i), [(i : Int)])
def pickP (ws : List D) : Pr D := (List.range ws.length).map fun (i : Nat) => ((ws[i]?).getD .none, [(i : Int)])
theorem pf_range {α : Type} (f : Nat → α) : ∀ k : Nat, PF ((List.range k).map fun (i : Nat) => (f i, [(i : Int)]))
  | k => by
    unfold PF
    rw [List.pairwise_map]
    exact (List.nodup_range (n := k)).imp fun {a b} h => Apart.head (by omega) [] []
theorem gpd_int (lo : Int) (k : Nat) : GPd 0 1 false (intP lo k) where
  pf := pf_range _ k
  rows := fun p hp => by
    obtain ⟨i, _, rfl⟩ := List.mem_map.mp hp
    exact Nat.le_refl _
  vals := fun p hp => by
    obtain ⟨i, _, rfl⟩ := List.mem_map.mp hp
    exact ⟨NV.int _, rfl⟩
theorem gpd_pick (ws : List D) (hw : ∀ w ∈ ws, ∃ z, w = .str z) : GPd 0 1 false (pickP ws) where
  pf := pf_range _ _
  rows := fun p hp => by
    obtain ⟨i, _, rfl⟩ := List.mem_map.mp hp
    exact Nat.le_refl _
  vals := fun p hp => by
    obtain ⟨i, hi, rfl⟩ := List.mem_map.mp hp
    have hi : i < ws.length := by simpa using hi
    obtain ⟨z, e⟩ := hw _ (List.getElem_mem hi)
    show NV 0 ((ws[i]?).getD .none) ∧ isTp ((ws[i]?).getD .none) = false
    rw [List.getElem?_eq_getElem hi, Option.getD_some, e]
    exact ⟨NV.str _, rfl⟩
theorem oneP_mem {α : Type} : ∀ {Qs : List (Pr α)} {k : Nat} {p : α × Row}, p ∈ oneP k Qs → ∃ Q ∈ Qs, ∃ q ∈ Q, p.1 = q.1 ∧ p.2.length = q.2.length + 1
  | [], _, _, h => by cases h
  | Q :: Qs, k, p, h => by
    rcases List.mem_append.mp h with h | h
    · obtain ⟨q, hq, rfl⟩ := List.mem_map.mp h
      exact ⟨Q, by simp, q, hq, rfl, rfl⟩
    · obtain ⟨R, hR, q, hq, e⟩ := oneP_mem h
      exact ⟨R, by simp [hR], q, hq, e⟩
theorem gpd_one {h m : Nat} {t : Bool} {Qs : List (Pr D)} (g : ∀ Q ∈ Qs, GPd h m t Q) : GPd h (m + 1) t (oneP 0 Qs) where
  pf := pf_oneP 0 fun Q hQ => (g Q hQ).pf
  rows := fun p hp => by
    obtain ⟨Q, hQ, q, hq, _, e⟩ := oneP_mem hp
    have := (g Q hQ).rows q hq
    omega
  vals := fun p hp => by
    obtain ⟨Q, hQ, q, hq, e, _⟩ := oneP_mem hp
    rw [e]
    exact (g Q hQ).vals q hq
theorem gpd_kept {h m : Nat} {t : Bool} {P : Pr D} (f : D → Bool) (g : GPd h m t P) : GPd h m t (P.filter fun p => f p.1) where
  pf := g.pf.filter _
  rows := fun p hp => g.rows p (List.mem_filter.mp hp).1
  vals := fun p hp => g.vals p (List.mem_filter.mp hp).1
theorem gpd_turn {h m h' : Nat} {t t' : Bool} {P : Pr D} (f : D → D) (g : GPd h m t P) (hf : ∀ p ∈ P, NV h' (f p.1) ∧ isTp (f p.1) = t') : GPd h' m t' (mapP f P) where
  pf := g.pf.map _
  rows := fun p hp => by
    obtain ⟨x, hx, rfl⟩ := List.mem_map.mp hp
    exact g.rows x hx
  vals := fun p hp => by
    obtain ⟨x, hx, rfl⟩ := List.mem_map.mp hp
    exact hf x hx
theorem oneP_len {α : Type} : ∀ (Qs : List (Pr α)) (k : Nat), (oneP k Qs).length = (Qs.map List.length).sum
  | [], _ => rfl
  | Q :: Qs, k => by rw [oneP, List.length_append, oneP_len Qs]; simp [frontP]
theorem oneT_len {α : Type} : ∀ (Qs : List (List (Tr α))) (k : Nat), (oneT k Qs).length = (Qs.map List.length).sum
  | [], _ => rfl
  | Q :: Qs, k => by rw [oneT, List.length_append, oneT_len Qs]; simp [frontT]
theorem tupP_len {α : Type} : ∀ (Qs : List (Pr α)) (M : Pr (List α)), (tupP Qs M).length = (Qs.map List.length).foldl (· * ·) M.length
  | [], M => rfl
  | Q :: Qs, M => by rw [tupP, tupP_len Qs, besP_len]; rfl
end Dv

namespace Dv
open PySem PySem.Spec L2
/-! how many values a table has -/
def VN {α : Type} (P : Pr α) : Prop := (P.map (·.1)).Nodup
theorem tabOf_len_of {α : Type} {P : Pr α} (h : PF P) {vs : List α} (n : vs.Nodup) (m : ∀ v, v ∈ P.map (·.1) ↔ v ∈ vs) : (tabOf P).length = vs.length := by
  have t := isTab_tabOf h
  have p : ((tabOf P).map (·.v)).Perm vs := (List.perm_ext_iff_of_nodup t.vnd n).mpr fun v => by
    rw [← m]
    constructor
    · intro hv
      obtain ⟨x, hx, rfl⟩ := List.mem_map.mp hv
      exact List.mem_map.mpr ⟨_, t.raw.occ x hx, rfl⟩
    · intro hv
      obtain ⟨p, hp, rfl⟩ := List.mem_map.mp hv
      obtain ⟨x, hx, e, _⟩ := t.raw.dom p hp
      exact List.mem_map.mpr ⟨x, hx, e⟩
  simpa using p.length_eq
section
variable {α β : Type}
theorem vn_map {f : α → β} (hf : ∀ a b, f a = f b → a = b) {P : Pr α} (h : VN P) : VN (mapP f P) := by
  unfold VN mapP List.Nodup at *
  rw [List.pairwise_map] at h
  rw [List.map_map, List.pairwise_map]
  exact h.imp fun n e => n (hf _ _ e)
theorem vn_bes {P : Pr (List α)} {Q : Pr α} (h : VN P) (g : VN Q) : VN (besP P Q) := by
  unfold VN List.Nodup at *
  rw [List.pairwise_map] at *
  induction P with
  | nil => exact .nil
  | cons p P ih =>
    rw [List.pairwise_cons] at h
    unfold besP at *
    rw [List.flatMap_cons]
    refine List.pairwise_append.mpr ⟨?_, ih h.2, ?_⟩
    · rw [List.pairwise_map]
      exact g.imp fun n e => n (by simpa using e)
    · intro a ha b hb e
      obtain ⟨q, hq, rfl⟩ := List.mem_map.mp ha
      obtain ⟨p', hp', hb⟩ := List.mem_flatMap.mp hb
      obtain ⟨q', hq', rfl⟩ := List.mem_map.mp hb
      refine h.1 p' hp' ?_
      exact (List.append_inj' e rfl).1
theorem vn_one0 : VN (one0P : Pr (List α)) := List.pairwise_singleton _ _
theorem vn_times {Q : Pr α} (g : VN Q) : ∀ (n : Nat) {M : Pr (List α)}, VN M → VN (timesP Q n M)
  | 0, _, h => h
  | n + 1, _, h => vn_times g n (vn_bes h g)
theorem vn_beh (c : Dv.Row) {M : Pr (List α)} (h : VN M) : VN (behP c M) := by
  unfold VN behP at *
  rw [List.map_map]
  exact h
def LenIs (n : Nat) (M : Pr (List α)) : Prop := ∀ p ∈ M, p.1.length = n
theorem LenIs.bes {n : Nat} {M : Pr (List α)} {Q : Pr α} (h : LenIs n M) : LenIs (n + 1) (besP M Q) := fun p hp => by
  obtain ⟨x, hx, hp⟩ := List.mem_flatMap.mp hp
  obtain ⟨y, hy, rfl⟩ := List.mem_map.mp hp
  have := h x hx
  simp [this]
theorem LenIs.beh {n : Nat} {M : Pr (List α)} (c : Dv.Row) (h : LenIs n M) : LenIs n (behP c M) := fun p hp => by
  obtain ⟨x, hx, rfl⟩ := List.mem_map.mp hp
  exact h x hx
theorem LenIs.times {Q : Pr α} : ∀ (k : Nat) {n : Nat} {M : Pr (List α)}, LenIs n M → LenIs (n + k) (timesP Q k M)
  | 0, _, _, h => h
  | k + 1, n, M, h => by
    have := LenIs.times (Q := Q) k (h.bes (Q := Q))
    rw [show n + (k + 1) = n + 1 + k by omega]
    exact this
theorem tail_len {Q : Pr α} : ∀ (d : Nat) {n : Nat} {M : Pr (List α)}, LenIs n M → ∀ p ∈ tailP Q d M, n ≤ p.1.length ∧ p.1.length ≤ n + d
  | 0, n, M, h, p, hp => by have := h p hp; omega
  | d + 1, n, M, h, p, hp => by
    rcases List.mem_append.mp hp with hp | hp
    · have := (h.beh [0]) p hp
      omega
    · have := tail_len d (h.beh [1]).bes p hp
      omega
theorem vn_tail {Q : Pr α} (g : VN Q) : ∀ (d : Nat) {n : Nat} {M : Pr (List α)}, LenIs n M → VN M → VN (tailP Q d M)
  | 0, _, _, _, h => h
  | d + 1, n, M, l, h => by
    have i := vn_tail g d (l.beh [1]).bes (vn_bes (vn_beh [1] h) g)
    have j := vn_beh [0] h
    unfold VN at *
    rw [tailP, List.map_append, List.nodup_append]
    refine ⟨j, i, fun a ha b hb e => ?_⟩
    obtain ⟨p, hp, rfl⟩ := List.mem_map.mp ha
    obtain ⟨q, hq, rfl⟩ := List.mem_map.mp hb
    have a1 := l.beh [0] p hp
    have a2 := (tail_len d (l.beh [1]).bes q hq).1
    rw [e] at a1
    omega
theorem len_one0 : LenIs 0 (one0P : Pr (List α)) := fun p hp => by rw [List.mem_singleton.mp hp]; rfl
theorem vn_list {Q : Pr α} (g : VN Q) (lo d : Nat) : VN (listP Q lo d) := vn_tail g d (LenIs.times lo len_one0) (vn_times g lo vn_one0)
end
theorem vn_int (lo : Int) (k : Nat) : VN (intP lo k) := by
  unfold VN intP List.Nodup
  rw [List.map_map, List.pairwise_map]
  exact (List.nodup_range (n := k)).imp fun {a b} h e => by
    simp at e
    omega
theorem tup_inj (a b : List D) (h : PyData.tuple a = .tuple b) : a = b := by injection h
/-- each length is there -/
theorem tail_has {α : Type} {Q : Pr α} (q : Q ≠ []) : ∀ (d : Nat) {n : Nat} {M : Pr (List α)}, LenIs n M → M ≠ [] → ∀ k, n ≤ k → k ≤ n + d → ∃ p ∈ tailP Q d M, p.1.length = k
  | 0, n, M, l, hM, k, h1, h2 => by
    obtain ⟨p, hp⟩ := List.exists_mem_of_ne_nil _ hM
    exact ⟨p, hp, by have := l p hp; omega⟩
  | d + 1, n, M, l, hM, k, h1, h2 => by
    by_cases e : k = n
    · obtain ⟨p, hp⟩ := List.exists_mem_of_ne_nil _ hM
      refine ⟨(p.1, p.2 ++ [0]), List.mem_append.mpr (.inl (List.mem_map.mpr ⟨p, hp, rfl⟩)), by have := l p hp; simp; omega⟩
    · obtain ⟨p, hp⟩ := List.exists_mem_of_ne_nil _ hM
      obtain ⟨y, hy⟩ := List.exists_mem_of_ne_nil _ q
      have ne : besP (behP [1] M) Q ≠ [] := fun z => by
        have : (p.1 ++ [y.1], p.2 ++ [1] ++ y.2) ∈ besP (behP [1] M) Q := List.mem_flatMap.mpr ⟨(p.1, p.2 ++ [1]), List.mem_map.mpr ⟨p, hp, rfl⟩, List.mem_map.mpr ⟨y, hy, rfl⟩⟩
        rw [z] at this
        cases this
      obtain ⟨r, hr, e2⟩ := tail_has q d (l.beh [1]).bes ne k (by omega) (by omega)
      exact ⟨r, List.mem_append.mpr (.inr hr), e2⟩
/-! a comprehension that lets an exception out -/
theorem lcL_exc {α : Type} {vs : List Nat} {bind : D → Sto → Option Sto} {test : Sto → Res Bool} {elt : Sto → Res D} {S : Sto} {x : Xc} (e : α → D) (y : α) (zs : List α) (hy : ∃ S1 S2, bind (e y) S = some S1 ∧ test S1 = .ok true S1 ∧ elt S1 = .exc x S2) : ∀ (xs : List α) (acc : List D), acc.length + xs.length ≤ sizeLine →
    (∀ a ∈ xs, ∃ S1 d, bind (e a) S = some S1 ∧ test S1 = .ok true S1 ∧ elt S1 = .ok d S1 ∧ wipeS S1 vs = S) → ∃ S', lcL vs bind test elt ((xs ++ y :: zs).map e) acc S = .exc x S'
  | [], acc, _, _ => by
    obtain ⟨S1, S2, h1, h2, h3⟩ := hy
    refine ⟨S2, ?_⟩
    rw [List.nil_append, List.map_cons, lcL, h1]
    simp only [h2, rb_ok, h3, if_pos]
    rfl
  | a :: xs, acc, hz, st => by
    obtain ⟨S1, d, h1, h2, h3, h4⟩ := st a (by simp)
    rw [List.length_cons] at hz
    obtain ⟨S', r⟩ := lcL_exc e y zs hy xs (acc ++ [d]) (by simp; omega) fun b hb => st b (by simp [hb])
    refine ⟨S', ?_⟩
    rw [List.cons_append, List.map_cons, lcL, h1]
    simp only [h2, rb_ok, h3, if_pos]
    rw [if_pos (by omega), h4]
    exact r
theorem evF_lcE {α : Type} {c : Cfg} {own : List (Str × Nat)} {t : CG} {it : CI} {elt : CE} {S S1 : Sto} {x : Xc} (e : α → D) (xs : List α) (y : α) (zs : List α) (h1 : evI c it S = .ok ((xs ++ y :: zs).map e) S1) (hu : unOwned S1 (own.map (·.2)) = true) (hio : c.io = false) (hz : xs.length ≤ sizeLine)
    (hy : ∃ S2 S3, bindG c t (e y) (wipeS S1 (own.map (·.2))) = some S2 ∧ ev c elt S2 = .exc x S3)
    (step : ∀ a ∈ xs, ∃ S2 d, bindG c t (e a) (wipeS S1 (own.map (·.2))) = some S2 ∧ ev c elt S2 = .ok d S2 ∧ wipeS S2 (own.map (·.2)) = wipeS S1 (own.map (·.2))) :
    ∃ S', evF c (.lc own t it .none elt) S = .exc x S' := by
  obtain ⟨S', r⟩ := lcL_exc (vs := own.map (·.2)) (bind := bindG c t) (test := evC c .none) (elt := ev c elt) (S := wipeS S1 (own.map (·.2))) (x := x) e y zs (let ⟨a, b, p, q⟩ := hy; ⟨a, b, p, rfl, q⟩) xs [] (by simpa using hz) fun a ha => let ⟨p, d, q1, q2, q3⟩ := step a ha; ⟨p, d, q1, rfl, q2, q3⟩
  refine ⟨backS S1 (wipeS S' (own.map (·.2))) (own.map (·.2)), ?_⟩
  have u : evF c (.lc own t it .none elt) S = (evI c it S).bind fun ds S1 => if unOwned S1 (own.map (·.2)) && !(c.io && (own.map (·.2)).contains 0) then
      ((lcL (own.map (·.2)) (bindG c t) (evC c .none) (ev c elt) ds [] (wipeS S1 (own.map (·.2)))).onX fun S2 => backS S1 (wipeS S2 (own.map (·.2))) (own.map (·.2))).bind fun ys S2 => .ok (.lst ys) (backS S1 S2 (own.map (·.2)))
    else .bad := rfl
  rw [u, h1, rb_ok, hu, hio, if_pos (show (true && !(false && (own.map (·.2)).contains 0)) = true from rfl), r]
  rfl
end Dv

namespace Dv
open PySem PySem.Spec L2
/-! values that may be keys: == is = -/
mutual
theorem eqv_nk : ∀ (a b : D) (k l : NestedKey), nkOf a = some k → nkOf b = some l → (PyData.eqv a b = true ↔ a = b)
  | .int i, b, k, l, h1, h2 => by
    cases b with
    | int j => simp [PyData.eqv]
    | str y => simp [PyData.eqv]
    | tuple es => simp [PyData.eqv]
    | none => cases h2
    | bool x => cases h2
    | list x => cases h2
    | dict x => cases h2
  | .str x, b, k, l, h1, h2 => by
    cases b with
    | int j => simp [PyData.eqv]
    | str y => simp [PyData.eqv]
    | tuple es => simp [PyData.eqv]
    | none => cases h2
    | bool x => cases h2
    | list x => cases h2
    | dict x => cases h2
  | .tuple ds, b, k, l, h1, h2 => by
    cases b with
    | int j => simp [PyData.eqv]
    | str y => simp [PyData.eqv]
    | tuple es =>
      simp only [nkOf] at h1 h2
      cases q : nksOf ds with
      | none => rw [q] at h1; cases h1
      | some ks =>
        cases q2 : nksOf es with
        | none => rw [q2] at h2; cases h2
        | some ls =>
          rw [PyData.eqv, eqv_nks ds es ks ls q q2]
          simp
    | none => cases h2
    | bool x => cases h2
    | list x => cases h2
    | dict x => cases h2
  | .none, _, _, _, h, _ => by cases h
  | .bool _, _, _, _, h, _ => by cases h
  | .list _, _, _, _, h, _ => by cases h
  | .dict _, _, _, _, h, _ => by cases h
theorem eqv_nks : ∀ (a b : List D) (k l : List NestedKey), nksOf a = some k → nksOf b = some l → (PyData.eqvAll a b = true ↔ a = b)
  | [], [], _, _, _, _ => by simp [PyData.eqvAll]
  | [], e :: es, _, _, _, _ => by simp [PyData.eqvAll]
  | d :: ds, [], _, _, _, _ => by simp [PyData.eqvAll]
  | d :: ds, e :: es, k, l, h1, h2 => by
    simp only [nksOf] at h1 h2
    cases q : nkOf d with
    | none => rw [q] at h1; cases h1
    | some x =>
      rw [q, Option.bind_some] at h1
      cases q1 : nksOf ds with
      | none => rw [q1] at h1; cases h1
      | some xs =>
        cases r : nkOf e with
        | none => rw [r] at h2; cases h2
        | some y =>
          rw [r, Option.bind_some] at h2
          cases r1 : nksOf es with
          | none => rw [r1] at h2; cases h2
          | some ys =>
            rw [PyData.eqvAll, Bool.and_eq_true, eqv_nk d e x y q r, eqv_nks ds es xs ys q1 r1]
            simp
end
mutual
theorem dep_nk : ∀ (a : D) (k : NestedKey), nkOf a = some k → a.depth ≤ k.depth
  | .int i, k, h => by simp [PyData.depth]
  | .str x, k, h => by simp [PyData.depth]
  | .tuple ds, k, h => by
    simp only [nkOf] at h
    cases q : nksOf ds with
    | none => rw [q] at h; cases h
    | some ks =>
      rw [q] at h
      cases h
      have := dep_nks ds ks q
      simp only [PyData.depth, NestedKey.depth]
      omega
  | .none, _, h => by cases h
  | .bool _, _, h => by cases h
  | .list _, _, h => by cases h
  | .dict _, _, h => by cases h
theorem dep_nks : ∀ (a : List D) (k : List NestedKey), nksOf a = some k → PyData.depthAll a ≤ NestedKey.depthAll k
  | [], k, h => by simp [PyData.depthAll]
  | d :: ds, k, h => by
    simp only [nksOf] at h
    cases q : nkOf d with
    | none => rw [q] at h; cases h
    | some x =>
      rw [q, Option.bind_some] at h
      cases q1 : nksOf ds with
      | none => rw [q1] at h; cases h
      | some xs =>
        rw [q1] at h
        cases h
        have := dep_nk d x q
        have := dep_nks ds xs q1
        simp only [PyData.depthAll, NestedKey.depthAll]
        omega
end
theorem NV.eqv {h h' : Nat} {a b : D} (x : NV h a) (y : NV h' b) : PyData.eqv a b = true ↔ a = b :=
  let ⟨⟨k, e, _⟩, _⟩ := x
  let ⟨⟨l, e', _⟩, _⟩ := y
  eqv_nk a b k l e e'
theorem NV.dep {h : Nat} {a : D} (x : NV h a) : a.depth ≤ h :=
  let ⟨⟨k, e, l⟩, _⟩ := x
  Nat.le_trans (dep_nk a k e) l
open Classical in
theorem nv_in {h : Nat} (hh : h ≤ 60) {a : D} {xs : List D} (x : NV h a) (hs : ∀ y ∈ xs, NV h y) (neg : Bool) : dInB neg a (.list xs) = some (if neg then !decide (a ∈ xs) else decide (a ∈ xs)) := by
  have e : (xs.any fun y => PyData.eqv y a) = decide (a ∈ xs) := by
    rw [Bool.eq_iff_iff, List.any_eq_true, decide_eq_true_eq]
    constructor
    · rintro ⟨y, hy, e⟩
      rw [← ((hs y hy).eqv x).mp e]
      exact hy
    · intro m
      exact ⟨a, m, ((hs a m).eqv x).mpr rfl⟩
  have d : min (PyData.depthAll xs) a.depth ≤ 60 := by have := x.dep; omega
  show (if min (PyData.depthAll xs) a.depth ≤ 60 then _ else _) = _
  rw [if_pos d, e]
mutual
theorem nod_nk : ∀ (a : D) (k : NestedKey), nkOf a = some k → Dv.nod a = true
  | .int i, k, h => rfl
  | .str x, k, h => rfl
  | .tuple ds, k, h => by
    simp only [nkOf] at h
    cases q : nksOf ds with
    | none => rw [q] at h; cases h
    | some ks => simp only [Dv.nod]; exact nods_nks ds ks q
  | .none, _, h => by cases h
  | .bool _, _, h => by cases h
  | .list _, _, h => by cases h
  | .dict _, _, h => by cases h
theorem nods_nks : ∀ (a : List D) (k : List NestedKey), nksOf a = some k → nods a = true
  | [], k, h => rfl
  | d :: ds, k, h => by
    simp only [nksOf] at h
    cases q : nkOf d with
    | none => rw [q] at h; cases h
    | some x =>
      rw [q, Option.bind_some] at h
      cases q1 : nksOf ds with
      | none => rw [q1] at h; cases h
      | some xs => simp only [nods, nod_nk d x q, nods_nks ds xs q1, Bool.and_self]
end
theorem NV.nod {h : Nat} {a : D} (x : NV h a) : Dv.nod a = true :=
  let ⟨⟨k, e, _⟩, _⟩ := x
  nod_nk a k e
/-! the first of each value -/
section
variable {α : Type}
open Classical in
/-- rows whose value was not seen yet -/
noncomputable def firsts (seen : List α) : Pr α → Pr α
  | [] => []
  | p :: ps => if p.1 ∈ seen then firsts seen ps else p :: firsts (seen ++ [p.1]) ps
theorem firsts_sub : ∀ (G : Pr α) (s : List α), (firsts s G).Sublist G
  | [], s => List.Sublist.refl _
  | p :: ps, s => by
    unfold firsts
    split
    · exact (firsts_sub ps s).cons p
    · exact (firsts_sub ps _).cons_cons p
theorem firsts_seen : ∀ (G : Pr α) (s : List α) (p : α × Dv.Row), p ∈ firsts s G → p.1 ∉ s
  | [], s, p, h => by cases h
  | q :: G, s, p, h => by
    unfold firsts at h
    split at h
    · exact firsts_seen G s p h
    · rename_i n
      rcases List.mem_cons.mp h with rfl | h
      · exact n
      · exact fun m => firsts_seen G _ p h (List.mem_append.mpr (.inl m))
theorem firsts_vnd : ∀ (G : Pr α) (s : List α), ((firsts s G).map (·.1)).Nodup
  | [], s => .nil
  | q :: G, s => by
    unfold firsts
    split
    · exact firsts_vnd G s
    · rw [List.map_cons, List.nodup_cons]
      refine ⟨fun m => ?_, firsts_vnd G _⟩
      obtain ⟨p, hp, e⟩ := List.mem_map.mp m
      exact firsts_seen G _ p hp (List.mem_append.mpr (.inr (by rw [e]; simp)))
theorem firsts_dom : ∀ (G : Pr α) (s : List α), G.Pairwise (fun a b => rowLt a.2 b.2 = true) → ∀ p ∈ G, p.1 ∉ s → ∃ q ∈ firsts s G, q.1 = p.1 ∧ rle q.2 p.2
  | [], s, _, p, h, _ => by cases h
  | q :: G, s, hs, p, h, n => by
    rw [List.pairwise_cons] at hs
    unfold firsts
    split
    · rename_i m
      rcases List.mem_cons.mp h with rfl | h
      · exact absurd m n
      · exact firsts_dom G s hs.2 p h n
    · rcases List.mem_cons.mp h with rfl | h
      · exact ⟨p, by simp, rfl, rle_refl _⟩
      · by_cases e : p.1 = q.1
        · exact ⟨q, by simp, e.symm, rle_of_lt (hs.1 p h)⟩
        · obtain ⟨r, hr, e2, l⟩ := firsts_dom G (s ++ [q.1]) hs.2 p h (fun m => by
            rcases List.mem_append.mp m with m | m
            · exact n m
            · exact e (by simpa using m))
          exact ⟨r, by simp [hr], e2, l⟩
/-- the rows of a table whose values are of a kind, and the first rows of such values -/
theorem firsts_table {P : Pr α} {T : List (Tr α)} (t : IsTab P T) (f : α → Bool) {G : Pr α} (hs : G.Pairwise fun a b => rowLt a.2 b.2 = true) (hm : ∀ p, p ∈ G ↔ p ∈ P ∧ f p.1 = true) :
    (firsts [] G) = (T.filter fun x => f x.v).map fun x => (x.v, x.r) := by
  have e : (firsts [] G).map (fun p => (⟨p.1, 0, p.2⟩ : Tr α)) = (T.filter fun x => f x.v).map fun x => (⟨x.v, 0, x.r⟩ : Tr α) := by
    refine sorted_eq ?_ ?_ fun x => ?_
    · rw [List.pairwise_map]
      exact hs.sublist (firsts_sub G [])
    · rw [List.pairwise_map]
      exact t.srt.filter _
    · constructor
      · intro hx
        obtain ⟨p, hp, rfl⟩ := List.mem_map.mp hx
        have hG := (firsts_sub G []).subset hp
        obtain ⟨hP, hf⟩ := (hm p).mp hG
        obtain ⟨y, hy, e, l⟩ := t.raw.dom p hP
        have yG : (y.v, y.r) ∈ G := (hm _).mpr ⟨t.raw.occ y hy, by show f y.v = true; rw [e]; exact hf⟩
        obtain ⟨q, hq, e2, l2⟩ := firsts_dom G [] hs _ yG (by simp)
        have : q = p := by
          have n := firsts_vnd G []
          have a : (⟨q.1, 0, q.2⟩ : Tr α) = ⟨p.1, 0, p.2⟩ := nd_eq (T := (firsts [] G).map fun p => (⟨p.1, 0, p.2⟩ : Tr α)) (by rw [List.map_map]; exact n) (List.mem_map_of_mem hq) (List.mem_map_of_mem hp) (e2.trans e)
          exact Prod.ext (congrArg Tr.v a) (congrArg Tr.r a)
        subst this
        have er : q.2 = y.r := rle_anti l2 l
        refine List.mem_map.mpr ⟨y, List.mem_filter.mpr ⟨hy, by rw [e]; exact hf⟩, ?_⟩
        rw [e, er]
      · intro hx
        obtain ⟨y, hy, rfl⟩ := List.mem_map.mp hx
        obtain ⟨hy, hf⟩ := List.mem_filter.mp hy
        have yG : (y.v, y.r) ∈ G := (hm _).mpr ⟨t.raw.occ y hy, hf⟩
        obtain ⟨q, hq, e, l⟩ := firsts_dom G [] hs _ yG (by simp)
        have hqP := (hm q).mp ((firsts_sub G []).subset hq)
        obtain ⟨z, hz, e2, l2⟩ := t.raw.dom q hqP.1
        have : z = y := nd_eq t.vnd hz hy (e2.trans e)
        subst this
        have er : q.2 = z.r := rle_anti l l2
        refine List.mem_map.mpr ⟨q, hq, ?_⟩
        show (⟨q.1, 0, q.2⟩ : Tr α) = ⟨z.v, 0, z.r⟩
        rw [e, er]
  have := congrArg (List.map fun x : Tr α => (x.v, x.r)) e
  rw [List.map_map, List.map_map] at this
  have i : (firsts [] G).map ((fun x : Tr α => (x.v, x.r)) ∘ fun p => (⟨p.1, 0, p.2⟩ : Tr α)) = firsts [] G := List.map_id _
  rw [i] at this
  exact this
open Classical in
/-- the law's walk over the failing rows -/
noncomputable def wasteW (ok : Dv.Row → Bool) : Pr α → List α → List Dv.Row → List Dv.Row
  | [], _, d => d
  | p :: ps, s, d => if p.1 ∈ s then wasteW ok ps s d else wasteW ok ps (s ++ [p.1]) (if s ≠ [] ∧ ok p.2 = true then d ++ [p.2] else d)
theorem wasteW_on (ok : Dv.Row → Bool) : ∀ (G : Pr α) (s : List α) (d : List Dv.Row), s ≠ [] → wasteW ok G s d = d ++ ((firsts s G).map (·.2)).filter ok
  | [], s, d, _ => by simp [wasteW, firsts]
  | p :: G, s, d, h => by
    unfold wasteW firsts
    split
    · exact wasteW_on ok G s d h
    · rw [wasteW_on ok G _ _ (by simp), List.map_cons, List.filter_cons]
      by_cases o : ok p.2 = true
      · rw [if_pos ⟨h, o⟩, if_pos o]
        simp
      · rw [if_neg (fun z => o z.2), if_neg o]
theorem wasteW_0 (ok : Dv.Row → Bool) (G : Pr α) : wasteW ok G [] [] = (((firsts [] G).map (·.2)).tail).filter ok := by
  cases G with
  | nil => simp [wasteW, firsts]
  | cons p G =>
    unfold wasteW firsts
    rw [if_neg (by simp), if_neg (by simp), if_neg (by simp), wasteW_on ok G _ _ (by simp)]
    simp
end
end Dv

namespace K55
open PySem PySem.Spec L2 Dv
def topS (i : Nat) : Stmt := PySem.Challenge.pw_choicerows_k55_machines_made.main.body.getD i (.Pass ⟨0, 0, 0, 0⟩)
def builts : List Str := ["all", "len", "isinstance", "int", "bool", "tuple", "zip", "str", "list", "set", "range", "min", "max"]
def fnK : List (Str × Kd) := ("is_word", .pl) :: ("is_integer", .pl) :: ("is_tuple_of", .pl) :: ("is_of_kind", .pl) :: ("is_list", .pl) :: ("fits_item", .pl) :: ("fits_list", .pl) :: ("fits", .pl) :: ("kind_behind", .pl) :: ("parts_of", .pl) :: ("kind_of_plain", .pl) :: ("kind_of_several", .pl) :: ("kind_of_whole", .pl) :: ("kind_at", .pl) :: ("kind_of", .pl) :: ("makes_integers", .pl) :: ("command_fault", .pl) :: ("machine", .pl) :: ("_law_cell", .pl) :: ("_law_draw", .pl) :: ("_law_about", .pl) :: ("_law_commands", .pl) :: ("_law_machine", .pl) :: ("_law_due", .pl) :: ("_law_told", .pl) :: ("law", .pl) :: []
def conL : List (Str × D) := [("LETTERS", .int (8)), ("SMALL", .str "abcdefghijklmnopqrstuvwxyz"), ("DIVISOR", .int (100)), ("GREAT", .int (1000)), ("WORDS", .int (10)), ("ITEMS", .int (4)), ("LONG", .int (6)), ("EFFECTS", .tuple [.str "add", .str "take", .str "set"]), ("COMMANDS", .int (4))]
def xl : List (Str × List Str) := [("GeneratorError", ["what", "path"]), ("MachineError", ["what", "place"])]
def i_GeneratorError : Stmt := (clsBody (topS 19)).getD 0 (.Pass ⟨0, 0, 0, 0⟩)
theorem sh_GeneratorError : InitShape ["what", "path"] i_GeneratorError where
  body := ⟨_, _, _, _, _, _, _, rfl, (.cons _ _ _ _ (.cons _ _ _ _ .nil)), rfl, .inr ⟨_, _, rfl, by decide +kernel⟩⟩
  arg := ⟨_, rfl, rfl⟩
  kind := ⟨rfl, rfl, rfl⟩
  names := ⟨by decide +kernel, by decide +kernel, by decide +kernel⟩
  cells := by decide +kernel
  par := by decide +kernel
  bind := fun _ _ _ _ _ _ _ _ x us hl => match us, hl with | [_, _], _ => rfl
def i_MachineError : Stmt := (clsBody (topS 20)).getD 0 (.Pass ⟨0, 0, 0, 0⟩)
theorem sh_MachineError : InitShape ["what", "place"] i_MachineError where
  body := ⟨_, _, _, _, _, _, _, rfl, (.cons _ _ _ _ (.cons _ _ _ _ .nil)), rfl, .inr ⟨_, _, rfl, by decide +kernel⟩⟩
  arg := ⟨_, rfl, rfl⟩
  kind := ⟨rfl, rfl, rfl⟩
  names := ⟨by decide +kernel, by decide +kernel, by decide +kernel⟩
  cells := by decide +kernel
  par := by decide +kernel
  bind := fun _ _ _ _ _ _ _ _ x us hl => match us, hl with | [_, _], _ => rfl
def mtL : List (Str × (Str × Str)) := []
def kl : List (Str × List Str) := []
def b_is_word : CSs :=
  .cons (.ret (.and_ (.chain .le .le (.int 1) (.bf .len (.cons (.var 0) (.nil))) (.glo "LETTERS")) (.qnt false [("sign", 1)] (.name 1) (.seq (.var 0)) .none (.cmp .in_ (.var 1) (.glo "SMALL"))))) <| .nil
def d_is_word : Def := { f := "is_word", ps := ["text"], N := ["text", "sign"], kd := .pl, body := b_is_word, gx := true }
theorem s_is_word : DS builts xl fnK mtL kl d_is_word (topS 9) where
  sc := ⟨rfl, rfl, rfl, by decide +kernel, rfl, by decide +kernel, by decide +kernel⟩
  ck := by decide +kernel
  bd := fun _ _ _ _ _ _ us hl => match us, hl with | [_], _ => rfl
def b_is_integer : CSs :=
  .cons (.ret (.and_ (.isi (.var 0) "int") (.not_ (.isi (.var 0) "bool")))) <| .nil
def d_is_integer : Def := { f := "is_integer", ps := ["value"], N := ["value"], kd := .pl, body := b_is_integer }
theorem s_is_integer : DS builts xl fnK mtL kl d_is_integer (topS 10) where
  sc := ⟨rfl, rfl, rfl, by decide +kernel, rfl, by decide +kernel, by decide +kernel⟩
  ck := by decide +kernel
  bd := fun _ _ _ _ _ _ us hl => match us, hl with | [_], _ => rfl
def b_is_tuple_of_1 : CSs :=
  .cons (.ret (.qnt false [("part", 2), ("kind", 3)] (.tup [2, 3]) (.zip (.var 0) (.var 1)) .none (.call "is_of_kind" (.cons (.var 2) (.cons (.var 3) (.nil)))))) <| .nil
def b_is_tuple_of : CSs :=
  .cons (.if_ (.or_ (.not_ (.val (.isi (.var 0) "tuple"))) (.cmp .ne (.bf .len (.cons (.var 0) (.nil))) (.bf .len (.cons (.var 1) (.nil))))) (
    .cons (.ret (.bl false)) <| .nil) (.nil)) <| b_is_tuple_of_1
def d_is_tuple_of : Def := { f := "is_tuple_of", ps := ["value", "kinds"], N := ["value", "kinds", "part", "kind"], kd := .pl, body := b_is_tuple_of, gx := true }
theorem s_is_tuple_of : DS builts xl fnK mtL kl d_is_tuple_of (topS 11) where
  sc := ⟨rfl, rfl, rfl, by decide +kernel, rfl, by decide +kernel, by decide +kernel⟩
  ck := by decide +kernel
  bd := fun _ _ _ _ _ _ us hl => match us, hl with | [_, _], _ => rfl
def b_is_of_kind_1 : CSs :=
  .cons (.ret (.and_ (.isi (.var 0) "tuple") (.qnt false [("part", 2)] (.name 2) (.seq (.var 0)) .none (.call "is_of_kind" (.cons (.var 2) (.cons (.item (.var 1) (.int 1)) (.nil))))))) <| .nil
def b_is_of_kind_2 : CSs :=
  .cons (.if_ (.cmp .eq (.item (.var 1) (.int 0)) (.str "tuple")) (
    .cons (.ret (.call "is_tuple_of" (.cons (.var 0) (.cons (.item (.var 1) (.int 1)) (.nil))))) <| .nil) (.nil)) <| b_is_of_kind_1
def b_is_of_kind_3 : CSs :=
  .cons (.if_ (.cmp .eq (.var 1) (.str "word")) (
    .cons (.ret (.and_ (.isi (.var 0) "str") (.call "is_word" (.cons (.var 0) (.nil))))) <| .nil) (.nil)) <| b_is_of_kind_2
def b_is_of_kind : CSs :=
  .cons (.if_ (.cmp .eq (.var 1) (.str "int")) (
    .cons (.ret (.call "is_integer" (.cons (.var 0) (.nil)))) <| .nil) (.nil)) <| b_is_of_kind_3
def d_is_of_kind : Def := { f := "is_of_kind", ps := ["value", "kind"], N := ["value", "kind", "part"], kd := .pl, body := b_is_of_kind, gx := true }
theorem s_is_of_kind : DS builts xl fnK mtL kl d_is_of_kind (topS 12) where
  sc := ⟨rfl, rfl, rfl, by decide +kernel, rfl, by decide +kernel, by decide +kernel⟩
  ck := by decide +kernel
  bd := fun _ _ _ _ _ _ us hl => match us, hl with | [_, _], _ => rfl
def b_is_list : CSs :=
  .cons (.ret (.and_ (.isi (.var 0) "tuple") (.cmp .eq (.item (.var 0) (.int 0)) (.str "list")))) <| .nil
def d_is_list : Def := { f := "is_list", ps := ["kind"], N := ["kind"], kd := .pl, body := b_is_list }
theorem s_is_list : DS builts xl fnK mtL kl d_is_list (topS 13) where
  sc := ⟨rfl, rfl, rfl, by decide +kernel, rfl, by decide +kernel, by decide +kernel⟩
  ck := by decide +kernel
  bd := fun _ _ _ _ _ _ us hl => match us, hl with | [_], _ => rfl
def b_fits_item_1 : CSs :=
  .cons (.ret (.and_ (.chain .le .lt (.int 0) (.item (.var 0) (.int 1)) (.bf .len (.cons (.item (.var 1) (.int 1)) (.nil)))) (.call "fits" (.cons (.item (.var 0) (.int 2)) (.cons (.item (.item (.var 1) (.int 1)) (.item (.var 0) (.int 1))) (.nil)))))) <| .nil
def b_fits_item : CSs :=
  .cons (.if_ (.or_ (.not_ (.val (.isi (.var 1) "tuple"))) (.cmp .ne (.item (.var 1) (.int 0)) (.str "tuple"))) (
    .cons (.ret (.bl false)) <| .nil) (.nil)) <| b_fits_item_1
def d_fits_item : Def := { f := "fits_item", ps := ["condition", "kind"], N := ["condition", "kind"], kd := .pl, body := b_fits_item }
theorem s_fits_item : DS builts xl fnK mtL kl d_fits_item (topS 14) where
  sc := ⟨rfl, rfl, rfl, by decide +kernel, rfl, by decide +kernel, by decide +kernel⟩
  ck := by decide +kernel
  bd := fun _ _ _ _ _ _ us hl => match us, hl with | [_, _], _ => rfl
def b_fits_list_1 : CSs :=
  .cons (.ret (.or_ (.cmp .eq (.var 2) (.str "different")) (.cmp .eq (.item (.var 1) (.int 1)) (.str "int")))) <| .nil
def b_fits_list_2 : CSs :=
  .cons (.if_ (.cmp .eq (.var 2) (.str "sum")) (
    .cons (.ret (.and_ (.cmp .eq (.item (.var 1) (.int 1)) (.str "int")) (.call "fits" (.cons (.item (.var 0) (.int 1)) (.cons (.str "int") (.nil)))))) <| .nil) (.nil)) <| b_fits_list_1
def b_fits_list_3 : CSs :=
  .cons (.if_ (.cmp .eq (.var 2) (.str "size")) (
    .cons (.ret (.call "fits" (.cons (.item (.var 0) (.int 1)) (.cons (.str "int") (.nil))))) <| .nil) (.nil)) <| b_fits_list_2
def b_fits_list_4 : CSs :=
  .cons (.if_ (.cmp .in_ (.var 2) (.tup (.cons (.str "every") (.cons (.str "some") (.nil))))) (
    .cons (.ret (.call "fits" (.cons (.item (.var 0) (.int 1)) (.cons (.item (.var 1) (.int 1)) (.nil))))) <| .nil) (.nil)) <| b_fits_list_3
def b_fits_list : CSs :=
  .cons (.set 2 (.item (.var 0) (.int 0))) <|
  .cons (.if_ (.not_ (.val (.call "is_list" (.cons (.var 1) (.nil))))) (
    .cons (.ret (.bl false)) <| .nil) (.nil)) <| b_fits_list_4
def d_fits_list : Def := { f := "fits_list", ps := ["condition", "kind"], N := ["condition", "kind", "name"], kd := .pl, body := b_fits_list }
theorem s_fits_list : DS builts xl fnK mtL kl d_fits_list (topS 15) where
  sc := ⟨rfl, rfl, rfl, by decide +kernel, rfl, by decide +kernel, by decide +kernel⟩
  ck := by decide +kernel
  bd := fun _ _ _ _ _ _ us hl => match us, hl with | [_, _], _ => rfl
def b_fits_1 : CSs :=
  .cons (.ret (.call "fits_list" (.cons (.var 0) (.cons (.var 1) (.nil))))) <| .nil
def b_fits_2 : CSs :=
  .cons (.if_ (.cmp .in_ (.var 2) (.tup (.cons (.str "and") (.cons (.str "or") (.nil))))) (
    .cons (.ret (.and_ (.call "fits" (.cons (.item (.var 0) (.int 1)) (.cons (.var 1) (.nil)))) (.call "fits" (.cons (.item (.var 0) (.int 2)) (.cons (.var 1) (.nil)))))) <| .nil) (.nil)) <| b_fits_1
def b_fits_3 : CSs :=
  .cons (.if_ (.cmp .eq (.var 2) (.str "not")) (
    .cons (.ret (.call "fits" (.cons (.item (.var 0) (.int 1)) (.cons (.var 1) (.nil))))) <| .nil) (.nil)) <| b_fits_2
def b_fits_4 : CSs :=
  .cons (.if_ (.cmp .eq (.var 2) (.str "item")) (
    .cons (.ret (.call "fits_item" (.cons (.var 0) (.cons (.var 1) (.nil))))) <| .nil) (.nil)) <| b_fits_3
def b_fits_5 : CSs :=
  .cons (.if_ (.cmp .eq (.var 2) (.str "is")) (
    .cons (.ret (.and_ (.cmp .eq (.var 1) (.str "word")) (.call "is_word" (.cons (.item (.var 0) (.int 1)) (.nil))))) <| .nil) (.nil)) <| b_fits_4
def b_fits_6 : CSs :=
  .cons (.if_ (.cmp .eq (.var 2) (.str "divides")) (
    .cons (.ret (.and_ (.cmp .eq (.var 1) (.str "int")) (.chain .le .le (.int 1) (.item (.var 0) (.int 1)) (.glo "DIVISOR")))) <| .nil) (.nil)) <| b_fits_5
def b_fits : CSs :=
  .cons (.set 2 (.item (.var 0) (.int 0))) <|
  .cons (.if_ (.cmp .eq (.var 2) (.str "atmost")) (
    .cons (.ret (.cmp .eq (.var 1) (.str "int"))) <| .nil) (.nil)) <| b_fits_6
def d_fits : Def := { f := "fits", ps := ["condition", "kind"], N := ["condition", "kind", "name"], kd := .pl, body := b_fits }
theorem s_fits : DS builts xl fnK mtL kl d_fits (topS 16) where
  sc := ⟨rfl, rfl, rfl, by decide +kernel, rfl, by decide +kernel, by decide +kernel⟩
  ck := by decide +kernel
  bd := fun _ _ _ _ _ _ us hl => match us, hl with | [_, _], _ => rfl
def b_kind_behind_1 : CSs :=
  .cons (.ret (.item (.item (.var 1) (.int 1)) (.item (.var 0) (.int 1)))) <| .nil
def b_kind_behind_2 : CSs :=
  .cons (.ret (.var 1)) <| .nil
def b_kind_behind_3 : CSs :=
  .cons (.if_ (.cmp .eq (.var 2) (.str "sorted")) (
    .cons (.ret (.ite (.cmp .in_ (.item (.var 1) (.int 1)) (.tup (.cons (.str "int") (.cons (.str "word") (.nil))))) (.var 1) (.non))) <| .nil) (.nil)) <| b_kind_behind_2
def b_kind_behind_4 : CSs :=
  .cons (.if_ (.cmp .eq (.var 2) (.str "sum")) (
    .cons (.ret (.ite (.cmp .eq (.item (.var 1) (.int 1)) (.str "int")) (.str "int") (.non))) <| .nil) (.nil)) <| b_kind_behind_3
def b_kind_behind_5 : CSs :=
  .cons (.if_ (.cmp .eq (.var 2) (.str "length")) (
    .cons (.ret (.str "int")) <| .nil) (.nil)) <| b_kind_behind_4
def b_kind_behind_6 : CSs :=
  .cons (.if_ (.not_ (.val (.call "is_list" (.cons (.var 1) (.nil))))) (
    .cons (.ret (.non)) <| .nil) (.nil)) <| b_kind_behind_5
def b_kind_behind_7 : CSs :=
  .cons (.if_ (.cmp .eq (.var 2) (.str "item")) (
    .cons (.if_ (.or_ (.not_ (.val (.isi (.var 1) "tuple"))) (.or_ (.cmp .ne (.item (.var 1) (.int 0)) (.str "tuple")) (.not_ (.chain .le .lt (.int 0) (.item (.var 0) (.int 1)) (.bf .len (.cons (.item (.var 1) (.int 1)) (.nil))))))) (
      .cons (.ret (.non)) <| .nil) (.nil)) <| b_kind_behind_1) (.nil)) <| b_kind_behind_6
def b_kind_behind : CSs :=
  .cons (.set 2 (.item (.var 0) (.int 0))) <|
  .cons (.if_ (.cmp .in_ (.var 2) (.tup (.cons (.str "plus") (.cons (.str "times") (.nil))))) (
    .cons (.ret (.ite (.and_ (.cmp .eq (.var 1) (.str "int")) (.chain .le .le (.neg (.glo "GREAT")) (.item (.var 0) (.int 1)) (.glo "GREAT"))) (.str "int") (.non))) <| .nil) (.nil)) <| b_kind_behind_7
def d_kind_behind : Def := { f := "kind_behind", ps := ["some_map", "kind"], N := ["some_map", "kind", "name"], kd := .pl, body := b_kind_behind }
theorem s_kind_behind : DS builts xl fnK mtL kl d_kind_behind (topS 22) where
  sc := ⟨rfl, rfl, rfl, by decide +kernel, rfl, by decide +kernel, by decide +kernel⟩
  ck := by decide +kernel
  bd := fun _ _ _ _ _ _ us hl => match us, hl with | [_, _], _ => rfl
def b_parts_of_1 : CSs :=
  .cons (.ret (.fr (.lst (.nil)))) <| .nil
def b_parts_of_2 : CSs :=
  .cons (.if_ (.cmp .eq (.var 1) (.str "repeat")) (
    .cons (.ret (.fr (.lst (.cons (.item (.var 0) (.int 1)) (.cons (.item (.var 0) (.int 2)) (.nil)))))) <| .nil) (.nil)) <| b_parts_of_1
def b_parts_of_3 : CSs :=
  .cons (.if_ (.cmp .in_ (.var 1) (.tup (.cons (.str "list") (.cons (.str "kept") (.cons (.str "turned") (.nil)))))) (
    .cons (.ret (.fr (.lst (.cons (.item (.var 0) (.int 1)) (.nil))))) <| .nil) (.nil)) <| b_parts_of_2
def b_parts_of : CSs :=
  .cons (.set 1 (.item (.var 0) (.int 0))) <|
  .cons (.if_ (.cmp .in_ (.var 1) (.tup (.cons (.str "tuple") (.cons (.str "one") (.nil))))) (
    .cons (.ret (.fr (.bl .list1 (.item (.var 0) (.int 1))))) <| .nil) (.nil)) <| b_parts_of_3
def d_parts_of : Def := { f := "parts_of", ps := ["generator"], N := ["generator", "name"], kd := .pl, body := b_parts_of }
theorem s_parts_of : DS builts xl fnK mtL kl d_parts_of (topS 23) where
  sc := ⟨rfl, rfl, rfl, by decide +kernel, rfl, by decide +kernel, by decide +kernel⟩
  ck := by decide +kernel
  bd := fun _ _ _ _ _ _ us hl => match us, hl with | [_], _ => rfl
def b_kind_of_plain_1 : CSs :=
  .cons (.ret (.str "int")) <| .nil
def b_kind_of_plain_2 : CSs :=
  .cons (.ret (.str "word")) <| .nil
def b_kind_of_plain_3 : CSs :=
  .cons (.set 2 (.item (.var 0) (.int 1))) <|
  .cons (.if_ (.or_ (.not_ (.chain .le .le (.int 1) (.bf .len (.cons (.var 2) (.nil))) (.glo "WORDS"))) (.or_ (.cmp .lt (.lenset (.var 2)) (.bf .len (.cons (.var 2) (.nil)))) (.not_ (.val (.qnt false [("word", 3)] (.name 3) (.seq (.var 2)) .none (.call "is_word" (.cons (.var 3) (.nil)))))))) (
    .cons (.raise_ "GeneratorError" ["what", "path"] (.cons (.str "wrong words") (.cons (.var 1) (.nil)))) <| .nil) (.nil)) <| b_kind_of_plain_2
def b_kind_of_plain : CSs :=
  .cons (.if_ (.cmp .eq (.item (.var 0) (.int 0)) (.str "int")) (
    .cons (.if_ (.not_ (.chain3 .le .le .le (.neg (.glo "GREAT")) (.item (.var 0) (.int 1)) (.item (.var 0) (.int 2)) (.glo "GREAT"))) (
      .cons (.raise_ "GeneratorError" ["what", "path"] (.cons (.str "wrong bounds") (.cons (.var 1) (.nil)))) <| .nil) (.nil)) <| b_kind_of_plain_1) (.nil)) <| b_kind_of_plain_3
def d_kind_of_plain : Def := { f := "kind_of_plain", ps := ["generator", "path"], N := ["generator", "path", "words", "word"], kd := .pl, body := b_kind_of_plain, gx := true }
theorem s_kind_of_plain : DS builts xl fnK mtL kl d_kind_of_plain (topS 24) where
  sc := ⟨rfl, rfl, rfl, by decide +kernel, rfl, by decide +kernel, by decide +kernel⟩
  ck := by decide +kernel
  bd := fun _ _ _ _ _ _ us hl => match us, hl with | [_, _], _ => rfl
def b_kind_of_several_1 : CSs :=
  .cons (.ret (.item (.var 1) (.int 0))) <| .nil
def b_kind_of_several_2 : CSs :=
  .cons (.if_ (.not_ (.val (.qnt false [("kind", 3)] (.name 3) (.seq (.var 1)) .none (.cmp .eq (.var 3) (.item (.var 1) (.int 0)))))) (
    .cons (.raise_ "GeneratorError" ["what", "path"] (.cons (.str "other kinds") (.cons (.var 2) (.nil)))) <| .nil) (.nil)) <| b_kind_of_several_1
def b_kind_of_several_3 : CSs :=
  .cons (.if_ (.cmp .eq (.item (.var 0) (.int 0)) (.str "tuple")) (
    .cons (.ret (.tup (.cons (.str "tuple") (.cons (.bf .tuple1 (.cons (.var 1) (.nil))) (.nil))))) <| .nil) (.nil)) <| b_kind_of_several_2
def b_kind_of_several : CSs :=
  .cons (.if_ (.or_ (.cmp .gt (.bf .len (.cons (.var 1) (.nil))) (.glo "ITEMS")) (.and_ (.cmp .eq (.item (.var 0) (.int 0)) (.str "one")) (.cmp .eq (.bf .len (.cons (.var 1) (.nil))) (.int 0)))) (
    .cons (.raise_ "GeneratorError" ["what", "path"] (.cons (.str "wrong number") (.cons (.var 2) (.nil)))) <| .nil) (.nil)) <| b_kind_of_several_3
def d_kind_of_several : Def := { f := "kind_of_several", ps := ["generator", "kinds", "path"], N := ["generator", "kinds", "path", "kind"], kd := .pl, body := b_kind_of_several, gx := true }
theorem s_kind_of_several : DS builts xl fnK mtL kl d_kind_of_several (topS 25) where
  sc := ⟨rfl, rfl, rfl, by decide +kernel, rfl, by decide +kernel, by decide +kernel⟩
  ck := by decide +kernel
  bd := fun _ _ _ _ _ _ us hl => match us, hl with | [_, _, _], _ => rfl
def b_kind_of_whole_1 : CSs :=
  .cons (.ret (.tup (.cons (.str "list") (.cons (.item (.var 1) (.int 0)) (.nil))))) <| .nil
def b_kind_of_whole_2 : CSs :=
  .cons (.ret (.var 4)) <| .nil
def b_kind_of_whole_3 : CSs :=
  .cons (.if_ (.cmp .is (.var 4) (.non)) (
    .cons (.raise_ "GeneratorError" ["what", "path"] (.cons (.str "does not fit") (.cons (.var 2) (.nil)))) <| .nil) (.nil)) <| b_kind_of_whole_2
def b_kind_of_whole_4 : CSs :=
  .cons (.if_ (.cmp .eq (.var 3) (.str "kept")) (
    .cons (.set 4 (.ite (.val (.call "fits" (.cons (.item (.var 0) (.int 2)) (.cons (.item (.var 1) (.int 0)) (.nil))))) (.item (.var 1) (.int 0)) (.non))) <| .nil) (
    .cons (.if_ (.cmp .eq (.var 3) (.str "turned")) (
      .cons (.set 4 (.call "kind_behind" (.cons (.item (.var 0) (.int 2)) (.cons (.item (.var 1) (.int 0)) (.nil))))) <| .nil) (
      .cons (.set 4 (.ite (.cmp .eq (.item (.var 1) (.int 0)) (.str "int")) (.tup (.cons (.str "list") (.cons (.item (.var 1) (.int 1)) (.nil)))) (.non))) <| .nil)) <| .nil)) <| b_kind_of_whole_3
def b_kind_of_whole_5 : CSs :=
  .cons (.if_ (.cmp .eq (.var 3) (.str "list")) (
    .cons (.if_ (.not_ (.chain3 .le .le .le (.int 0) (.item (.var 0) (.int 2)) (.item (.var 0) (.int 3)) (.glo "LONG"))) (
      .cons (.raise_ "GeneratorError" ["what", "path"] (.cons (.str "wrong bounds") (.cons (.var 2) (.nil)))) <| .nil) (.nil)) <| b_kind_of_whole_1) (.nil)) <| b_kind_of_whole_4
def b_kind_of_whole : CSs :=
  .cons (.set 3 (.item (.var 0) (.int 0))) <|
  .cons (.if_ (.cmp .in_ (.var 3) (.tup (.cons (.str "tuple") (.cons (.str "one") (.nil))))) (
    .cons (.ret (.call "kind_of_several" (.cons (.var 0) (.cons (.var 1) (.cons (.var 2) (.nil)))))) <| .nil) (.nil)) <| b_kind_of_whole_5
def d_kind_of_whole : Def := { f := "kind_of_whole", ps := ["generator", "kinds", "path"], N := ["generator", "kinds", "path", "name", "kind"], kd := .pl, body := b_kind_of_whole }
theorem s_kind_of_whole : DS builts xl fnK mtL kl d_kind_of_whole (topS 26) where
  sc := ⟨rfl, rfl, rfl, by decide +kernel, rfl, by decide +kernel, by decide +kernel⟩
  ck := by decide +kernel
  bd := fun _ _ _ _ _ _ us hl => match us, hl with | [_, _, _], _ => rfl
def b_kind_at_1 : CSs :=
  .cons (.set 2 (.call "parts_of" (.cons (.var 0) (.nil)))) <|
  .cons (.own 3 (.lc [("k", 4)] (.name 4) (.rng1 (.bf .len (.cons (.var 2) (.nil)))) .none (.call "kind_at" (.cons (.item (.var 2) (.var 4)) (.cons (.bin .add (.var 1) (.tup (.cons (.var 4) (.nil)))) (.nil)))))) <|
  .cons (.ret (.call "kind_of_whole" (.cons (.var 0) (.cons (.var 3) (.cons (.var 1) (.nil)))))) <| .nil
def b_kind_at : CSs :=
  .cons (.if_ (.cmp .in_ (.item (.var 0) (.int 0)) (.tup (.cons (.str "int") (.cons (.str "pick") (.nil))))) (
    .cons (.ret (.call "kind_of_plain" (.cons (.var 0) (.cons (.var 1) (.nil))))) <| .nil) (.nil)) <| b_kind_at_1
def d_kind_at : Def := { f := "kind_at", ps := ["generator", "path"], N := ["generator", "path", "parts", "kinds", "k"], kd := .pl, body := b_kind_at }
theorem s_kind_at : DS builts xl fnK mtL kl d_kind_at (topS 27) where
  sc := ⟨rfl, rfl, rfl, by decide +kernel, rfl, by decide +kernel, by decide +kernel⟩
  ck := by decide +kernel
  bd := fun _ _ _ _ _ _ us hl => match us, hl with | [_, _], _ => rfl
def b_kind_of : CSs :=
  .cons (.ret (.call "kind_at" (.cons (.var 0) (.cons (.tup (.nil)) (.nil))))) <| .nil
def d_kind_of : Def := { f := "kind_of", ps := ["generator"], N := ["generator"], kd := .pl, body := b_kind_of }
theorem s_kind_of : DS builts xl fnK mtL kl d_kind_of (topS 28) where
  sc := ⟨rfl, rfl, rfl, by decide +kernel, rfl, by decide +kernel, by decide +kernel⟩
  ck := by decide +kernel
  bd := fun _ _ _ _ _ _ us hl => match us, hl with | [_], _ => rfl
def b_makes_integers : CSs :=
  .cons (.try_ "GeneratorError" none (
    .cons (.ret (.cmp .eq (.call "kind_of" (.cons (.var 0) (.nil))) (.str "int"))) <| .nil) (.one (.bl false))) <| .nil
def d_makes_integers : Def := { f := "makes_integers", ps := ["generator"], N := ["generator"], kd := .pl, body := b_makes_integers }
theorem s_makes_integers : DS builts xl fnK mtL kl d_makes_integers (topS 31) where
  sc := ⟨rfl, rfl, rfl, by decide +kernel, rfl, by decide +kernel, by decide +kernel⟩
  ck := by decide +kernel
  bd := fun _ _ _ _ _ _ us hl => match us, hl with | [_], _ => rfl
def b_command_fault_1 : CSs :=
  .cons (.ret (.non)) <| .nil
def b_command_fault_2 : CSs :=
  .cons (.if_ (.cmp .notin (.var 5) (.glo "EFFECTS")) (
    .cons (.ret (.str "wrong effect")) <| .nil) (.nil)) <| b_command_fault_1
def b_command_fault_3 : CSs :=
  .cons (.if_ (.not_ (.val (.call "makes_integers" (.cons (.var 4) (.nil))))) (
    .cons (.ret (.str "wrong generator")) <| .nil) (.nil)) <| b_command_fault_2
def b_command_fault_4 : CSs :=
  .cons (.if_ (.not_ (.val (.call "fits" (.cons (.var 3) (.cons (.str "int") (.nil)))))) (
    .cons (.ret (.str "wrong guard")) <| .nil) (.nil)) <| b_command_fault_3
def b_command_fault_5 : CSs :=
  .cons (.if_ (.cmp .in_ (.var 2) (.var 0)) (
    .cons (.ret (.str "named twice")) <| .nil) (.nil)) <| b_command_fault_4
def b_command_fault : CSs :=
  .cons (.unpack [2, 3, 4, 5] (.var 1)) <|
  .cons (.if_ (.not_ (.val (.call "is_of_kind" (.cons (.var 2) (.cons (.str "word") (.nil)))))) (
    .cons (.ret (.str "wrong name")) <| .nil) (.nil)) <| b_command_fault_5
def d_command_fault : Def := { f := "command_fault", ps := ["known", "command"], N := ["known", "command", "name", "guard", "generator", "effect"], kd := .pl, body := b_command_fault }
theorem s_command_fault : DS builts xl fnK mtL kl d_command_fault (topS 32) where
  sc := ⟨rfl, rfl, rfl, by decide +kernel, rfl, by decide +kernel, by decide +kernel⟩
  ck := by decide +kernel
  bd := fun _ _ _ _ _ _ us hl => match us, hl with | [_, _], _ => rfl
def b_machine_1 : CSs :=
  .cons (.set 4 (.call "command_fault" (.cons (.fr (.lc [("command", 5)] (.name 5) (.seq (.slice (.var 1) .none (.some (.var 3)))) .none (.item (.var 5) (.int 0)))) (.cons (.item (.var 1) (.var 3)) (.nil))))) <|
  .cons (.if_ (.cmp .isnot (.var 4) (.non)) (
    .cons (.raise_ "MachineError" ["what", "place"] (.cons (.var 4) (.cons (.var 3) (.nil)))) <| .nil) (.nil)) <| .nil
def b_machine_2 : CSs :=
  .cons (.ret (.tup (.cons (.var 0) (.cons (.bf .tuple1 (.cons (.fr (.lc [("command", 5)] (.name 5) (.seq (.var 1)) .none (.bf .tuple1 (.cons (.var 5) (.nil))))) (.nil))) (.cons (.var 2) (.nil)))))) <| .nil
def b_machine_3 : CSs :=
  .cons (.for_ (.name 3) (.rng1 (.bf .len (.cons (.var 1) (.nil)))) (b_machine_1)) <| b_machine_2
def b_machine_4 : CSs :=
  .cons (.if_ (.not_ (.chain .le .le (.int 0) (.var 2) (.glo "LONG"))) (
    .cons (.raise_ "MachineError" ["what", "place"] (.cons (.str "wrong most") (.cons (.neg (.int 1)) (.nil)))) <| .nil) (.nil)) <| b_machine_3
def b_machine_5 : CSs :=
  .cons (.if_ (.not_ (.chain .le .le (.int 1) (.bf .len (.cons (.var 1) (.nil))) (.glo "COMMANDS"))) (
    .cons (.raise_ "MachineError" ["what", "place"] (.cons (.str "wrong number") (.cons (.neg (.int 1)) (.nil)))) <| .nil) (.nil)) <| b_machine_4
def b_machine : CSs :=
  .cons (.if_ (.not_ (.chain .le .le (.neg (.glo "GREAT")) (.var 0) (.glo "GREAT"))) (
    .cons (.raise_ "MachineError" ["what", "place"] (.cons (.str "wrong first") (.cons (.neg (.int 1)) (.nil)))) <| .nil) (.nil)) <| b_machine_5
def d_machine : Def := { f := "machine", ps := ["first", "commands", "most"], N := ["first", "commands", "most", "place", "what", "command"], kd := .pl, body := b_machine }
theorem s_machine : DS builts xl fnK mtL kl d_machine (topS 33) where
  sc := ⟨rfl, rfl, rfl, by decide +kernel, rfl, by decide +kernel, by decide +kernel⟩
  ck := by decide +kernel
  bd := fun _ _ _ _ _ _ us hl => match us, hl with | [_, _, _], _ => rfl
def b_l_cell_1 : CSs :=
  .cons (.ret (.int 0)) <| .nil
def b_l_cell : CSs :=
  .cons (.if_ (.cmp .lt (.var 1) (.bf .len (.cons (.var 0) (.nil)))) (
    .cons (.ret (.item (.var 0) (.var 1))) <| .nil) (.nil)) <| b_l_cell_1
def d_l_cell : Def := { f := "_law_cell", ps := ["_law_script", "_law_k"], N := ["_law_script", "_law_k"], kd := .pl, body := b_l_cell }
theorem s_l_cell : DS builts xl fnK mtL kl d_l_cell (topS 35) where
  sc := ⟨rfl, rfl, rfl, by decide +kernel, rfl, by decide +kernel, by decide +kernel⟩
  ck := by decide +kernel
  bd := fun _ _ _ _ _ _ us hl => match us, hl with | [_, _], _ => rfl
def b_l_draw_1 : CSs :=
  .cons (.append 4 (.bin .mod (.var 3) (.var 7))) <|
  .cons (.set 3 (.bin .div (.var 3) (.var 7))) <| .nil
def b_l_draw_2 : CSs :=
  .cons (.ret (.var 4)) <| .nil
def b_l_draw_3 : CSs :=
  .cons (.set 5 (.bin .mod (.bin .add (.bin .add (.bin .mul (.var 5) (.int 48271)) (.int 11)) (.var 6)) (.int 2147483647))) <|
  .cons (.set 5 (.bin .mod (.bin .add (.bin .mul (.var 5) (.int 69621)) (.int 3)) (.int 2147483647))) <|
  .cons (.append 4 (.bin .mod (.bin .div (.var 5) (.int 7)) (.item (.var 2) (.var 6)))) <| .nil
def b_l_draw_4 : CSs :=
  .cons (.ret (.var 4)) <| .nil
def b_l_draw_5 : CSs :=
  .cons (.set 5 (.bin .mod (.bin .add (.bin .add (.var 3) (.int 1)) (.bin .mul (.int 31) (.var 1))) (.int 2147483647))) <|
  .cons (.for_ (.name 6) (.rng1 (.bf .len (.cons (.var 2) (.nil)))) (b_l_draw_3)) <| b_l_draw_4
def b_l_draw_6 : CSs :=
  .cons (.own 4 (.lst (.nil))) <|
  .cons (.if_ (.cmp .ge (.var 3) (.bin .pow (.int 10) (.int 18))) (
    .cons (.set 3 (.bin .sub (.var 3) (.bin .pow (.int 10) (.int 18)))) <|
    .cons (.for_ (.name 7) (.seq (.var 2)) (b_l_draw_1)) <| b_l_draw_2) (.nil)) <| b_l_draw_5
def b_l_draw : CSs :=
  .cons (.set 3 (.call "_law_cell" (.cons (.var 0) (.cons (.var 1) (.nil))))) <|
  .cons (.if_ (.cmp .lt (.var 3) (.int 0)) (
    .cons (.set 3 (.neg (.var 3))) <| .nil) (.nil)) <| b_l_draw_6
def d_l_draw : Def := { f := "_law_draw", ps := ["_law_script", "_law_k", "_law_sizes"], N := ["_law_script", "_law_k", "_law_sizes", "_law_cell_here", "_law_drawn", "_law_mixed", "_law_j", "_law_size"], kd := .pl, body := b_l_draw }
theorem s_l_draw : DS builts xl fnK mtL kl d_l_draw (topS 36) where
  sc := ⟨rfl, rfl, rfl, by decide +kernel, rfl, by decide +kernel, by decide +kernel⟩
  ck := by decide +kernel
  bd := fun _ _ _ _ _ _ us hl => match us, hl with | [_, _, _], _ => rfl
def b_l_about_1 : CSs :=
  .cons (.ret (.tup (.cons (.str "or") (.cons (.tup (.cons (.str "atmost") (.cons (.bin .sub (.item (.var 0) (.int 1)) (.int 2)) (.nil)))) (.cons (.tup (.cons (.str "divides") (.cons (.int 2) (.nil)))) (.nil)))))) <| .nil
def b_l_about_2 : CSs :=
  .cons (.if_ (.cmp .eq (.item (.var 0) (.int 0)) (.int 2)) (
    .cons (.ret (.tup (.cons (.str "not") (.cons (.tup (.cons (.str "atmost") (.cons (.bin .sub (.item (.var 0) (.int 1)) (.int 1)) (.nil)))) (.nil))))) <| .nil) (.nil)) <| b_l_about_1
def b_l_about_3 : CSs :=
  .cons (.if_ (.cmp .eq (.item (.var 0) (.int 0)) (.int 1)) (
    .cons (.ret (.tup (.cons (.str "divides") (.cons (.bin .add (.int 1) (.bin .mod (.item (.var 0) (.int 1)) (.int 3))) (.nil))))) <| .nil) (.nil)) <| b_l_about_2
def b_l_about : CSs :=
  .cons (.if_ (.cmp .eq (.item (.var 0) (.int 0)) (.int 0)) (
    .cons (.ret (.tup (.cons (.str "atmost") (.cons (.bin .sub (.item (.var 0) (.int 1)) (.int 1)) (.nil))))) <| .nil) (.nil)) <| b_l_about_3
def d_l_about : Def := { f := "_law_about", ps := ["_law_digits"], N := ["_law_digits"], kd := .pl, body := b_l_about }
theorem s_l_about : DS builts xl fnK mtL kl d_l_about (topS 37) where
  sc := ⟨rfl, rfl, rfl, by decide +kernel, rfl, by decide +kernel, by decide +kernel⟩
  ck := by decide +kernel
  bd := fun _ _ _ _ _ _ us hl => match us, hl with | [_], _ => rfl
def b_l_commands_1 : CSs :=
  .cons (.append 3 (.tup (.cons (.item (.fr (.lst (.cons (.str "put") (.cons (.str "get") (.cons (.str "reset") (.cons (.str "jump") (.nil))))))) (.var 4)) (.cons (.var 6) (.cons (.var 7) (.cons (.item (.fr (.lst (.cons (.str "add") (.cons (.str "take") (.cons (.str "set") (.nil)))))) (.bin .mod (.bin .add (.item (.var 5) (.int 4)) (.var 4)) (.int 3))) (.nil))))))) <| .nil
def b_l_commands_2 : CSs :=
  .cons (.set 7 (.tup (.cons (.str "int") (.cons (.bin .sub (.item (.var 5) (.int 2)) (.int 1)) (.cons (.bin .add (.bin .sub (.item (.var 5) (.int 2)) (.int 1)) (.item (.var 5) (.int 3))) (.nil)))))) <|
  .cons (.if_ (.cmp .eq (.item (.var 5) (.int 4)) (.int 0)) (
    .cons (.set 7 (.tup (.cons (.str "kept") (.cons (.var 7) (.cons (.call "_law_about" (.cons (.fr (.lst (.cons (.item (.var 5) (.int 2)) (.cons (.item (.var 5) (.int 3)) (.nil))))) (.nil))) (.nil)))))) <| .nil) (.nil)) <| b_l_commands_1
def b_l_commands_3 : CSs :=
  .cons (.set 5 (.slice (.call "_law_draw" (.cons (.var 0) (.cons (.bin .add (.bin .add (.var 1) (.int 1)) (.bin .mod (.var 4) (.int 2))) (.cons (.fr (.lst (.cons (.int 4) (.cons (.int 5) (.cons (.int 3) (.cons (.int 3) (.cons (.int 3) (.cons (.int 4) (.cons (.int 5) (.cons (.int 3) (.cons (.int 3) (.cons (.int 3) (.nil))))))))))))) (.nil))))) (.some (.bin .mul (.int 5) (.bin .div (.var 4) (.int 2)))) (.some (.bin .add (.bin .mul (.int 5) (.bin .div (.var 4) (.int 2))) (.int 5))))) <|
  .cons (.set 6 (.call "_law_about" (.cons (.slice (.var 5) .none (.some (.int 2))) (.nil)))) <|
  .cons (.if_ (.cmp .eq (.item (.var 5) (.int 0)) (.int 3)) (
    .cons (.set 6 (.tup (.cons (.str "atmost") (.cons (.bin .add (.int 2) (.item (.var 5) (.int 1))) (.nil))))) <| .nil) (.nil)) <| b_l_commands_2
def b_l_commands_4 : CSs :=
  .cons (.ret (.var 3)) <| .nil
def b_l_commands : CSs :=
  .cons (.set 2 (.call "_law_draw" (.cons (.var 0) (.cons (.var 1) (.cons (.fr (.lst (.cons (.int 4) (.nil)))) (.nil)))))) <|
  .cons (.own 3 (.lst (.nil))) <|
  .cons (.for_ (.name 4) (.rng1 (.bin .add (.int 1) (.item (.var 2) (.int 0)))) (b_l_commands_3)) <| b_l_commands_4
def d_l_commands : Def := { f := "_law_commands", ps := ["_law_script", "_law_k"], N := ["_law_script", "_law_k", "_law_head", "_law_commands_here", "_law_j", "_law_digits", "_law_guard", "_law_argument"], kd := .pl, body := b_l_commands }
theorem s_l_commands : DS builts xl fnK mtL kl d_l_commands (topS 38) where
  sc := ⟨rfl, rfl, rfl, by decide +kernel, rfl, by decide +kernel, by decide +kernel⟩
  ck := by decide +kernel
  bd := fun _ _ _ _ _ _ us hl => match us, hl with | [_, _], _ => rfl
def b_l_machine : CSs :=
  .cons (.set 2 (.call "_law_draw" (.cons (.var 0) (.cons (.var 1) (.cons (.fr (.lst (.cons (.int 5) (.cons (.int 4) (.nil))))) (.nil)))))) <|
  .cons (.ret (.tup (.cons (.bin .sub (.item (.var 2) (.int 0)) (.int 2)) (.cons (.bf .tuple1 (.cons (.call "_law_commands" (.cons (.var 0) (.cons (.bin .add (.var 1) (.int 1)) (.nil)))) (.nil))) (.cons (.item (.var 2) (.int 1)) (.nil)))))) <| .nil
def d_l_machine : Def := { f := "_law_machine", ps := ["_law_script", "_law_k"], N := ["_law_script", "_law_k", "_law_digits"], kd := .pl, body := b_l_machine }
theorem s_l_machine : DS builts xl fnK mtL kl d_l_machine (topS 39) where
  sc := ⟨rfl, rfl, rfl, by decide +kernel, rfl, by decide +kernel, by decide +kernel⟩
  ck := by decide +kernel
  bd := fun _ _ _ _ _ _ us hl => match us, hl with | [_, _], _ => rfl
def b_l_due_1 : CSs :=
  .cons (.if_ (.cmp .notin (.var 7) (.fr (.lst (.cons (.str "add") (.cons (.str "take") (.cons (.str "set") (.nil))))))) (
    .cons (.ret (.tup (.cons (.str "wrong effect") (.cons (.var 3) (.nil))))) <| .nil) (.nil)) <| .nil
def b_l_due_2 : CSs :=
  .cons (.if_ (.cmp .in_ (.var 6) (.fr (.lst (.cons (.tup (.cons (.str "pick") (.cons (.tup (.cons (.str "a") (.cons (.str "b") (.nil)))) (.nil)))) (.cons (.tup (.cons (.str "int") (.cons (.int 3) (.cons (.int 2) (.nil))))) (.cons (.tup (.cons (.str "list") (.cons (.tup (.cons (.str "int") (.cons (.int 0) (.cons (.int 1) (.nil))))) (.cons (.int 0) (.cons (.int 1) (.nil)))))) (.cons (.tup (.cons (.str "kept") (.cons (.tup (.cons (.str "int") (.cons (.int 0) (.cons (.int 2) (.nil))))) (.cons (.tup (.cons (.str "rising") (.nil))) (.nil))))) (.cons (.tup (.cons (.str "turned") (.cons (.tup (.cons (.str "int") (.cons (.int 0) (.cons (.int 1) (.nil))))) (.cons (.tup (.cons (.str "length") (.nil))) (.nil))))) (.nil))))))))) (
    .cons (.ret (.tup (.cons (.str "wrong generator") (.cons (.var 3) (.nil))))) <| .nil) (.nil)) <| b_l_due_1
def b_l_due_3 : CSs :=
  .cons (.if_ (.cmp .in_ (.var 5) (.fr (.lst (.cons (.tup (.cons (.str "rising") (.nil))) (.cons (.tup (.cons (.str "is") (.cons (.str "a") (.nil)))) (.cons (.tup (.cons (.str "divides") (.cons (.int 0) (.nil)))) (.cons (.tup (.cons (.str "and") (.cons (.tup (.cons (.str "atmost") (.cons (.int 1) (.nil)))) (.cons (.tup (.cons (.str "different") (.nil))) (.nil))))) (.nil)))))))) (
    .cons (.ret (.tup (.cons (.str "wrong guard") (.cons (.var 3) (.nil))))) <| .nil) (.nil)) <| b_l_due_2
def b_l_due_4 : CSs :=
  .cons (.if_ (.cmp .in_ (.var 4) (.fr (.lc [("_law_command", 8)] (.name 8) (.seq (.slice (.var 1) .none (.some (.var 3)))) .none (.item (.var 8) (.int 0))))) (
    .cons (.ret (.tup (.cons (.str "named twice") (.cons (.var 3) (.nil))))) <| .nil) (.nil)) <| b_l_due_3
def b_l_due_5 : CSs :=
  .cons (.unpack [4, 5, 6, 7] (.item (.var 1) (.var 3))) <|
  .cons (.if_ (.cmp .in_ (.var 4) (.fr (.lst (.cons (.str "") (.cons (.str "Put") (.cons (.str "toolongname") (.cons (.str "a1") (.nil)))))))) (
    .cons (.ret (.tup (.cons (.str "wrong name") (.cons (.var 3) (.nil))))) <| .nil) (.nil)) <| b_l_due_4
def b_l_due_6 : CSs :=
  .cons (.ret (.tup (.cons (.var 0) (.cons (.bf .tuple1 (.cons (.var 1) (.nil))) (.cons (.var 2) (.nil)))))) <| .nil
def b_l_due_7 : CSs :=
  .cons (.for_ (.name 3) (.rng1 (.bf .len (.cons (.var 1) (.nil)))) (b_l_due_5)) <| b_l_due_6
def b_l_due_8 : CSs :=
  .cons (.if_ (.or_ (.cmp .lt (.var 2) (.int 0)) (.cmp .gt (.var 2) (.int 6))) (
    .cons (.ret (.tup (.cons (.str "wrong most") (.cons (.neg (.int 1)) (.nil))))) <| .nil) (.nil)) <| b_l_due_7
def b_l_due_9 : CSs :=
  .cons (.if_ (.or_ (.cmp .lt (.bf .len (.cons (.var 1) (.nil))) (.int 1)) (.cmp .gt (.bf .len (.cons (.var 1) (.nil))) (.int 4))) (
    .cons (.ret (.tup (.cons (.str "wrong number") (.cons (.neg (.int 1)) (.nil))))) <| .nil) (.nil)) <| b_l_due_8
def b_l_due : CSs :=
  .cons (.if_ (.or_ (.cmp .lt (.var 0) (.neg (.int 1000))) (.cmp .gt (.var 0) (.int 1000))) (
    .cons (.ret (.tup (.cons (.str "wrong first") (.cons (.neg (.int 1)) (.nil))))) <| .nil) (.nil)) <| b_l_due_9
def d_l_due : Def := { f := "_law_due", ps := ["_law_first", "_law_commands_here", "_law_most"], N := ["_law_first", "_law_commands_here", "_law_most", "_law_k", "_law_name", "_law_guard", "_law_generator", "_law_effect", "_law_command"], kd := .pl, body := b_l_due }
theorem s_l_due : DS builts xl fnK mtL kl d_l_due (topS 40) where
  sc := ⟨rfl, rfl, rfl, by decide +kernel, rfl, by decide +kernel, by decide +kernel⟩
  ck := by decide +kernel
  bd := fun _ _ _ _ _ _ us hl => match us, hl with | [_, _, _], _ => rfl
def b_l_told : CSs :=
  .cons (.tryB "ChoiceError" "MachineError" 3 (
    .cons (.ret (.call "machine" (.cons (.var 0) (.cons (.fr (.bl .list1 (.var 1))) (.cons (.var 2) (.nil)))))) <| .nil) [.fld "what", .fld "place"]) <| .nil
def d_l_told : Def := { f := "_law_told", ps := ["_law_first", "_law_commands_here", "_law_most"], N := ["_law_first", "_law_commands_here", "_law_most", "e"], kd := .pl, body := b_l_told }
theorem s_l_told : DS builts xl fnK mtL kl d_l_told (topS 41) where
  sc := ⟨rfl, rfl, rfl, by decide +kernel, rfl, by decide +kernel, by decide +kernel⟩
  ck := by decide +kernel
  bd := fun _ _ _ _ _ _ us hl => match us, hl with | [_, _, _], _ => rfl
def b_law_1 : CSs :=
  .cons (.if_ (.cmp .ne (.lend "_law_told" (.var 4) 2 (.var 5)) (.lend "_law_due" (.var 4) 2 (.var 5))) (
    .cons (.ret (.bl false)) <| .nil) (.nil)) <| .nil
def b_law_2 : CSs :=
  .cons (.set 6 (.call "_law_draw" (.cons (.var 0) (.cons (.bin .add (.bin .add (.bin .mul (.int 6) (.var 1)) (.int 4)) (.var 3)) (.cons (.fr (.lst (.cons (.int 10) (.cons (.int 4) (.cons (.int 5) (.cons (.int 4) (.nil))))))) (.nil)))))) <|
  .cons (.set 7 (.bin .mod (.item (.var 6) (.int 1)) (.bf .max2 (.cons (.int 1) (.cons (.lenO 2) (.nil)))))) <|
  .cons (.if_ (.and_ (.cmp .gt (.lenO 2) (.int 0)) (.cmp .lt (.item (.var 6) (.int 0)) (.int 6))) (
    .cons (.unpack [11, 12, 13, 14] (.itemO 2 (.var 7))) <|
    .cons (.set 8 (.fr (.lst (.cons (.str "") (.cons (.str "Put") (.cons (.str "toolongname") (.cons (.str "a1") (.cons (.item (.itemO 2 (.int 0)) (.int 0)) (.nil))))))))) <|
    .cons (.set 9 (.fr (.lst (.cons (.tup (.cons (.str "rising") (.nil))) (.cons (.tup (.cons (.str "is") (.cons (.str "a") (.nil)))) (.cons (.tup (.cons (.str "divides") (.cons (.int 0) (.nil)))) (.cons (.tup (.cons (.str "and") (.cons (.tup (.cons (.str "atmost") (.cons (.int 1) (.nil)))) (.cons (.tup (.cons (.str "different") (.nil))) (.nil))))) (.cons (.tup (.cons (.str "divides") (.cons (.int 7) (.nil)))) (.nil))))))))) <|
    .cons (.set 10 (.fr (.lst (.cons (.tup (.cons (.str "pick") (.cons (.tup (.cons (.str "a") (.cons (.str "b") (.nil)))) (.nil)))) (.cons (.tup (.cons (.str "int") (.cons (.int 3) (.cons (.int 2) (.nil))))) (.cons (.tup (.cons (.str "list") (.cons (.tup (.cons (.str "int") (.cons (.int 0) (.cons (.int 1) (.nil))))) (.cons (.int 0) (.cons (.int 1) (.nil)))))) (.cons (.tup (.cons (.str "kept") (.cons (.tup (.cons (.str "int") (.cons (.int 0) (.cons (.int 2) (.nil))))) (.cons (.tup (.cons (.str "rising") (.nil))) (.nil))))) (.cons (.tup (.cons (.str "turned") (.cons (.tup (.cons (.str "int") (.cons (.int 0) (.cons (.int 1) (.nil))))) (.cons (.tup (.cons (.str "length") (.nil))) (.nil))))) (.nil))))))))) <|
    .cons (.setI 2 (.var 7) (.item (.fr (.lst (.cons (.tup (.cons (.item (.var 8) (.item (.var 6) (.int 2))) (.cons (.var 12) (.cons (.var 13) (.cons (.var 14) (.nil)))))) (.cons (.tup (.cons (.var 11) (.cons (.item (.var 9) (.item (.var 6) (.int 2))) (.cons (.var 13) (.cons (.var 14) (.nil)))))) (.cons (.tup (.cons (.var 11) (.cons (.var 12) (.cons (.item (.var 10) (.item (.var 6) (.int 2))) (.cons (.var 14) (.nil)))))) (.cons (.tup (.cons (.var 11) (.cons (.var 12) (.cons (.var 13) (.cons (.item (.fr (.lst (.cons (.str "drop") (.cons (.str "") (.cons (.str "add") (.cons (.str "set") (.nil))))))) (.item (.var 6) (.int 3))) (.nil)))))) (.cons (.tup (.cons (.item (.var 8) (.item (.var 6) (.int 3))) (.cons (.item (.var 9) (.item (.var 6) (.int 2))) (.cons (.item (.var 10) (.item (.var 6) (.int 3))) (.cons (.str "x") (.nil)))))) (.cons (.tup (.cons (.var 11) (.cons (.tup (.cons (.str "not") (.cons (.tup (.cons (.str "atmost") (.cons (.item (.var 6) (.int 2)) (.nil)))) (.nil)))) (.cons (.var 13) (.cons (.var 14) (.nil)))))) (.nil))))))))) (.item (.var 6) (.int 0)))) <| .nil) (
    .cons (.if_ (.cmp .eq (.item (.var 6) (.int 0)) (.int 6)) (
      .cons (.set 4 (.item (.fr (.lst (.cons (.neg (.int 1001)) (.cons (.neg (.int 1000)) (.cons (.int 1000) (.cons (.int 1001) (.nil))))))) (.item (.var 6) (.int 3)))) <| .nil) (
      .cons (.if_ (.cmp .eq (.item (.var 6) (.int 0)) (.int 7)) (
        .cons (.set 5 (.item (.fr (.lst (.cons (.neg (.int 1)) (.cons (.int 0) (.cons (.int 6) (.cons (.int 7) (.nil))))))) (.item (.var 6) (.int 3)))) <| .nil) (
        .cons (.if_ (.cmp .eq (.item (.var 6) (.int 0)) (.int 8)) (
          .cons (.own 2 (.cat (.var 2) (.fr (.lc [("_law_i", 15)] (.name 15) (.rng1 (.item (.var 6) (.int 3))) .none (.tup (.cons (.bin .add (.str "w") (.item (.str "abcd") (.var 15))) (.cons (.tup (.cons (.str "atmost") (.cons (.int 1) (.nil)))) (.cons (.tup (.cons (.str "int") (.cons (.int 0) (.cons (.int 1) (.nil))))) (.cons (.str "set") (.nil)))))))))) <| .nil) (
          .cons (.own 2 (.lst (.nil))) <| .nil)) <| .nil)) <| .nil)) <| .nil)) <| b_law_1
def b_law_3 : CSs :=
  .cons (.for_ (.name 3) (.rng1 (.int 2)) (b_law_2)) <| .nil
def b_law_4 : CSs :=
  .cons (.unpack [4, 2, 5] (.call "_law_machine" (.cons (.var 0) (.cons (.bin .mul (.int 6) (.var 1)) (.nil))))) <|
  .cons (.own 2 (.listO 2)) <|
  .cons (.if_ (.cmp .ne (.lend "_law_told" (.var 4) 2 (.var 5)) (.lend "_law_due" (.var 4) 2 (.var 5))) (
    .cons (.ret (.bl false)) <| .nil) (.nil)) <| b_law_3
def b_law_5 : CSs :=
  .cons (.ret (.bl true)) <| .nil
def b_law : CSs :=
  .cons (.for_ (.name 1) (.rng1 (.bf .min2 (.cons (.int 6) (.cons (.bin .add (.int 1) (.bin .div (.bf .len (.cons (.var 0) (.nil))) (.int 6))) (.nil))))) (b_law_4)) <| b_law_5
def d_law : Def := { f := "law", ps := ["_law_script"], N := ["_law_script", "_law_w", "_law_commands_here", "_law_j", "_law_first", "_law_most", "_law_digits", "_law_k", "_law_names", "_law_guards", "_law_makers", "_law_name", "_law_guard", "_law_generator", "_law_effect", "_law_i"], kd := .pl, body := b_law }
theorem s_law : DS builts xl fnK mtL kl d_law (topS 42) where
  sc := ⟨rfl, rfl, rfl, by decide +kernel, rfl, by decide +kernel, by decide +kernel⟩
  ck := by decide +kernel
  bd := fun _ _ _ _ _ _ us hl => match us, hl with | [_], _ => rfl
def tab : List (Def × Stmt) := (d_is_word, topS 9) :: (d_is_integer, topS 10) :: (d_is_tuple_of, topS 11) :: (d_is_of_kind, topS 12) :: (d_is_list, topS 13) :: (d_fits_item, topS 14) :: (d_fits_list, topS 15) :: (d_fits, topS 16) :: (d_kind_behind, topS 22) :: (d_parts_of, topS 23) :: (d_kind_of_plain, topS 24) :: (d_kind_of_several, topS 25) :: (d_kind_of_whole, topS 26) :: (d_kind_at, topS 27) :: (d_kind_of, topS 28) :: (d_makes_integers, topS 31) :: (d_command_fault, topS 32) :: (d_machine, topS 33) :: (d_l_cell, topS 35) :: (d_l_draw, topS 36) :: (d_l_about, topS 37) :: (d_l_commands, topS 38) :: (d_l_machine, topS 39) :: (d_l_due, topS 40) :: (d_l_told, topS 41) :: (d_law, topS 42) :: []
def defs : List Def := d_is_word :: d_is_integer :: d_is_tuple_of :: d_is_of_kind :: d_is_list :: d_fits_item :: d_fits_list :: d_fits :: d_kind_behind :: d_parts_of :: d_kind_of_plain :: d_kind_of_several :: d_kind_of_whole :: d_kind_at :: d_kind_of :: d_makes_integers :: d_command_fault :: d_machine :: d_l_cell :: d_l_draw :: d_l_about :: d_l_commands :: d_l_machine :: d_l_due :: d_l_told :: d_law :: []
theorem all_s : AllP (fun p => DS builts xl (fnsOf (tab.map (·.1))) (mtsOf (tab.map (·.1))) kl p.1 p.2) tab := .cons s_is_word (.cons s_is_integer (.cons s_is_tuple_of (.cons s_is_of_kind (.cons s_is_list (.cons s_fits_item (.cons s_fits_list (.cons s_fits (.cons s_kind_behind (.cons s_parts_of (.cons s_kind_of_plain (.cons s_kind_of_several (.cons s_kind_of_whole (.cons s_kind_at (.cons s_kind_of (.cons s_makes_integers (.cons s_command_fault (.cons s_machine (.cons s_l_cell (.cons s_l_draw (.cons s_l_about (.cons s_l_commands (.cons s_l_machine (.cons s_l_due (.cons s_l_told (.cons s_law (.nil))))))))))))))))))))))))))
end K55

namespace K55
open PySem PySem.Spec L2 Dv

abbrev con0 : Str → Option D := fun y => conL.lookup y
abbrev cc (n : Nat) : Cfg := cfg con0 defs n false
theorem r_cell (n : Nat) (ns : List Int) (k : Nat) : RF con0 defs (n + 1) "_law_cell" none [.list (zs ns), .int k] = .ok (.int (cellZ ns k)) none := by
  rw [RF_pl (d := d_l_cell) rfl rfl rfl]
  simp [d_l_cell, b_l_cell, Dv.atI_natD, cellZ]
  split <;> simp_all [b_l_cell_1]
theorem draw_1 (n : Nat) (sizes : List Int) (hs : ∀ x ∈ sizes, 0 < x ∧ x ≤ 1000) (hl : sizes.length ≤ 1000) (a b c : Sl) (x : Int) (hx : 0 ≤ x) :
    ∃ ds y j, forL (forB (cc n) (.name 7) b_l_draw_1) (zs sizes) [a, b, c, .fro (.int x), .own (.lst []), .no, .no, .no] = .nx [a, b, c, .fro (.int y), .own (.lst (zs ds)), .no, .no, j] ∧ Drawn sizes ds := by
  obtain ⟨S', h, ds, y, j, hy, hd, rfl⟩ := forL_inv (body := forB (cc n) (.name 7) b_l_draw_1) (fun i S => ∃ ds y j, 0 ≤ y ∧ Drawn (sizes.take i) ds ∧ S = [a, b, c, .fro (.int y), .own (.lst (zs ds)), .no, .no, j]) (zs sizes) [a, b, c, .fro (.int x), .own (.lst []), .no, .no, .no] 0 ⟨[], x, .no, hx, .nil, rfl⟩ (by
    rintro i h S ⟨ds, y, j, hy, hd, rfl⟩
    rw [Nat.zero_add] at *
    have hi : i < sizes.length := by simpa using h
    have := hs sizes[i] (List.getElem_mem hi)
    rw [zs_elem]
    have hlen : ds.length = i := by rw [hd.1, List.length_take]; omega
    refine ⟨_, .inl ?_, ds ++ [y.fmod sizes[i]], y.fdiv sizes[i], .fro (.int sizes[i]), fdiv_nn hy this.1, hd.snoc hi (fmod_rng this.1).1 (fmod_rng this.1).2, rfl⟩
    have nz : sizes[i] ≠ 0 := by omega
    have sz : ds.length < sizeLine := by simp [hlen, sizeLine]; omega
    have dv : CDivN y sizes[i] := ⟨nz, by omega⟩
    simp [b_l_draw_1, nz, sz, div_int dv])
  exact ⟨ds, y, j, h, hd.full (zs_len _)⟩
theorem draw_2 (n : Nat) (sizes : List Int) (hs : ∀ x ∈ sizes, 0 < x ∧ x ≤ 1000) (hl : sizes.length ≤ 1000) (a b c : Sl) (m : Int) (hm : 0 ≤ m ∧ m < 2147483647) :
    ∃ ds y j, forL (forB (cc n) (.name 6) b_l_draw_3) (rng 0 sizes.length) [a, b, .fro (.list (zs sizes)), c, .own (.lst []), .fro (.int m), .no, .no] = .nx [a, b, .fro (.list (zs sizes)), c, .own (.lst (zs ds)), .fro (.int y), j, .no] ∧ Drawn sizes ds := by
  obtain ⟨S', h, ds, y, j, hy, hd, rfl⟩ := forL_inv (body := forB (cc n) (.name 6) b_l_draw_3) (fun i S => ∃ ds y j, (0 ≤ y ∧ y < 2147483647) ∧ Drawn (sizes.take i) ds ∧ S = [a, b, .fro (.list (zs sizes)), c, .own (.lst (zs ds)), .fro (.int y), j, .no]) (rng 0 sizes.length) [a, b, .fro (.list (zs sizes)), c, .own (.lst []), .fro (.int m), .no, .no] 0 ⟨[], m, .no, hm, .nil, rfl⟩ (by
    rintro i h S ⟨ds, y, j, hy, hd, rfl⟩
    rw [Nat.zero_add] at *
    have hi : i < sizes.length := by simpa using h
    have := hs sizes[i] (List.getElem_mem hi)
    rw [rng_elem]
    have hlen : ds.length = i := by rw [hd.1, List.length_take]; omega
    have nz : sizes[i] ≠ 0 := by omega
    have sz : ds.length < sizeLine := by simp [hlen, sizeLine]; omega
    have at_ : atI (zs sizes) (i : Int) = some (.int sizes[i]) := by rw [Dv.atI_natD]; simp [hi]
    have m1 : dMul (.int y) (.int 48271) = some (.int (y * 48271)) := mul_intD (.inl (by omega))
    obtain ⟨y1, e1, h1⟩ : ∃ y1, (y * 48271 + 11 + (i : Int)).fmod 2147483647 = y1 ∧ 0 ≤ y1 ∧ y1 < 2147483647 := ⟨_, rfl, fmod_rng (by omega)⟩
    have m2 : dMul (.int y1) (.int 69621) = some (.int (y1 * 69621)) := mul_intD (.inl (by omega))
    obtain ⟨y2, e2, h2⟩ : ∃ y2, (y1 * 69621 + 3).fmod 2147483647 = y2 ∧ 0 ≤ y2 ∧ y2 < 2147483647 := ⟨_, rfl, fmod_rng (by omega)⟩
    have dv : dDiv (.int y2) (.int 7) = some (.int (y2.fdiv 7)) := div_int ⟨by omega, by omega⟩
    refine ⟨_, .inl ?_, ds ++ [(y2.fdiv 7).fmod sizes[i]], y2, .fro (.int i), h2, hd.snoc hi (fmod_rng this.1).1 (fmod_rng this.1).2, rfl⟩
    simp only [Int.zero_add]
    simp [b_l_draw_3, nz, m1, e1, m2, e2, dv, at_]
    rw [if_pos sz]
    rfl)
  exact ⟨ds, y, j, h, hd.full (rng_len _ _)⟩
theorem r_draw (n : Nat) (ns : List Int) (k : Nat) (sizes : List Int) (hk : k ≤ 1000) (hs : ∀ x ∈ sizes, 0 < x ∧ x ≤ 1000) (hl : sizes.length ≤ 1000) :
    ∃ ds, RF con0 defs (n + 2) "_law_draw" none [.list (zs ns), .int k, .list (zs sizes)] = .ok (.list (zs ds)) none ∧ Drawn sizes ds := by
  rw [RF_pl (d := d_l_draw) rfl rfl rfl]
  simp [d_l_draw, b_l_draw, ev_call, r_cell]
  have tail : ∀ x : Int, 0 ≤ x → ∃ ds, endR .pl (exs (cc (n + 1)) b_l_draw_6 [.fro (.list (zs ns)), .fro (.int k), .fro (.list (zs sizes)), .fro (.int x), .no, .no, .no, .no]) = .ok (.list (zs ds)) none ∧ Drawn sizes ds := by
    intro x hx
    by_cases hb : (10 : Int) ^ 18 ≤ x
    · obtain ⟨ds, y, j, h, hd⟩ := draw_1 (n + 1) sizes hs hl (.fro (.list (zs ns))) (.fro (.int k)) (.fro (.list (zs sizes))) (x - 10 ^ 18) (by omega)
      refine ⟨ds, ?_, hd⟩
      simp at h hb
      simp [b_l_draw_6, pow18, hb, h, b_l_draw_2]
    · have hm : 0 ≤ (x + 1 + 31 * (k : Int)).fmod 2147483647 ∧ (x + 1 + 31 * (k : Int)).fmod 2147483647 < 2147483647 := fmod_rng (by omega)
      obtain ⟨ds, y, j, h, hd⟩ := draw_2 (n + 1) sizes hs hl (.fro (.list (zs ns))) (.fro (.int k)) (.fro (.int x)) _ hm
      refine ⟨ds, ?_, hd⟩
      have m1 : dMul (.int 31) (.int k) = some (.int (31 * k)) := mul_intD (.inl (by decide))
      have rr : range62 (sizes.length : Int) = true := r62 (by omega) (by omega)
      simp at hb
      simp [b_l_draw_6, pow18, Int.not_le.mpr hb, b_l_draw_5, m1, rr, h, b_l_draw_4]
  by_cases h : cellZ ns k < 0
  · rw [if_pos h]; exact tail _ (by omega)
  · rw [if_neg h]; exact tail _ (by omega)

end K55

namespace K55
open PySem PySem.Spec L2 Dv
/-! the law's parts, all of them, and what the program says of each: by the kernel -/
def isB (r : FR) (b : Bool) : Bool := match r with
  | .ok (.bool k) none => k == b
  | _ => false
theorem isB_eq {r : FR} {b : Bool} (h : isB r b = true) : r = .ok (.bool b) none := by
  unfold isB at h
  split at h
  · rw [beq_iff_eq] at h; rw [h]
  · cases h
def okE (d : Option D) (b : Bool) : Bool := match d with
  | some (.bool k) => k == b
  | _ => false
theorem okE_eq {d : Option D} {b : Bool} (h : okE d b = true) : d = some (.bool b) := by
  unfold okE at h
  split at h
  · rw [beq_iff_eq] at h; rw [h]
  · cases h
def yesD (d : Option D) : Bool := match d with
  | some (.bool true) => true
  | _ => false
/-- guards about whole numbers, as the law makes them -/
def abD (a b : Int) : D := if a = 0 then .tuple [.str "atmost", .int (b - 1)] else if a = 1 then .tuple [.str "divides", .int (1 + b.fmod 3)] else if a = 2 then .tuple [.str "not", .tuple [.str "atmost", .int (b - 1)]] else .tuple [.str "or", .tuple [.str "atmost", .int (b - 2)], .tuple [.str "divides", .int 2]]
def itD (c d : Int) : D := .tuple [.str "int", .int (c - 1), .int (c - 1 + d)]
def ups (n : Nat) : List Int := (List.range n).map Int.ofNat
theorem ups_mem {n : Nat} {z : Int} (h : 0 ≤ z ∧ z < n) : z ∈ ups n := by
  unfold ups
  rw [List.mem_map]
  exact ⟨z.toNat, List.mem_range.mpr (by omega), by show ((z.toNat : Nat) : Int) = z; omega⟩
def badGu : List D := [.tuple [.str "rising"], .tuple [.str "is", .str "a"], .tuple [.str "divides", .int 0], .tuple [.str "and", .tuple [.str "atmost", .int 1], .tuple [.str "different"]]]
def badGe : List D := [.tuple [.str "pick", .tuple [.str "a", .str "b"]], .tuple [.str "int", .int 3, .int 2], .tuple [.str "list", .tuple [.str "int", .int 0, .int 1], .int 0, .int 1], .tuple [.str "kept", .tuple [.str "int", .int 0, .int 2], .tuple [.str "rising"]], .tuple [.str "turned", .tuple [.str "int", .int 0, .int 1], .tuple [.str "length"]]]
def badNm : List D := [.str "", .str "Put", .str "toolongname", .str "a1"]
def efs : List D := [.str "add", .str "take", .str "set"]
def guL : List D := (ups 4).flatMap (fun a => (ups 5).map (abD a)) ++ (ups 5).map (fun b => .tuple [.str "atmost", .int (2 + b)]) ++ (ups 5).map (fun d => .tuple [.str "not", .tuple [.str "atmost", .int d]]) ++ [.tuple [.str "atmost", .int 1], .tuple [.str "divides", .int 7]] ++ badGu
def geL : List D := (ups 3).flatMap (fun c => (ups 3).flatMap fun d => [itD c d, .tuple [.str "kept", itD c d, abD c d]]) ++ [.tuple [.str "int", .int 0, .int 1]] ++ badGe
def nmL : List Str := ["put", "get", "reset", "jump", "wa", "wb", "wc", "", "Put", "toolongname", "a1"]
def efL : List Str := ["add", "take", "set", "drop", "", "x"]
def guB (g : D) : Bool := !yesD (dIn g (.list badGu))
def geB (g : D) : Bool := !yesD (dIn g (.list badGe))
def nmB (z : Str) : Bool := !yesD (dIn (.str z) (.list badNm))
def efB (z : Str) : Bool := yesD (dIn (.str z) (.list efs))
def plainT (g : D) : Bool := noLst g && nod g && decide (g.depth ≤ 9)
theorem gu_all : guL.all (fun g => isB (RF con0 defs 16 "fits" none [g, .str "int"]) (guB g) && okE (dIn g (.list badGu)) (!guB g) && plainT g) = true := by decide +kernel
theorem ge_all : geL.all (fun g => isB (RF con0 defs 16 "makes_integers" none [g]) (geB g) && okE (dIn g (.list badGe)) (!geB g) && plainT g) = true := by decide +kernel
theorem nm_all : nmL.all (fun z => isB (RF con0 defs 16 "is_of_kind" none [.str z, .str "word"]) (nmB z) && okE (dIn (.str z) (.list badNm)) (!nmB z)) = true := by decide +kernel
theorem ef_all : efL.all (fun z => okE (dNotIn (.str z) (.tuple efs)) (!efB z) && okE (dNotIn (.str z) (.list efs)) (!efB z)) = true := by decide +kernel
structure Cd where
  nm : Str
  gu : D
  ge : D
  ef : Str
def Cd.enc (c : Cd) : D := .tuple [.str c.nm, c.gu, c.ge, .str c.ef]
structure Cd.ok (c : Cd) : Prop where
  nm : c.nm ∈ nmL
  gu : c.gu ∈ guL
  ge : c.ge ∈ geL
  ef : c.ef ∈ efL
section
variable {c : Cd} (ok : c.ok)
include ok
theorem f_gu : RF con0 defs 16 "fits" none [c.gu, .str "int"] = .ok (.bool (guB c.gu)) none ∧ dIn c.gu (.list badGu) = some (.bool (!guB c.gu)) ∧ plainT c.gu = true := by
  have h := List.all_eq_true.mp gu_all _ ok.gu
  simp only [Bool.and_eq_true] at h
  exact ⟨isB_eq h.1.1, okE_eq h.1.2, h.2⟩
theorem f_ge : RF con0 defs 16 "makes_integers" none [c.ge] = .ok (.bool (geB c.ge)) none ∧ dIn c.ge (.list badGe) = some (.bool (!geB c.ge)) ∧ plainT c.ge = true := by
  have h := List.all_eq_true.mp ge_all _ ok.ge
  simp only [Bool.and_eq_true] at h
  exact ⟨isB_eq h.1.1, okE_eq h.1.2, h.2⟩
theorem f_nm : RF con0 defs 16 "is_of_kind" none [.str c.nm, .str "word"] = .ok (.bool (nmB c.nm)) none ∧ dIn (.str c.nm) (.list badNm) = some (.bool (!nmB c.nm)) := by
  have h := List.all_eq_true.mp nm_all _ ok.nm
  simp only [Bool.and_eq_true] at h
  exact ⟨isB_eq h.1, okE_eq h.2⟩
theorem f_ef : dNotIn (.str c.ef) (.tuple efs) = some (.bool (!efB c.ef)) ∧ dNotIn (.str c.ef) (.list efs) = some (.bool (!efB c.ef)) := by
  have h := List.all_eq_true.mp ef_all _ ok.ef
  simp only [Bool.and_eq_true] at h
  exact ⟨okE_eq h.1, okE_eq h.2⟩
end
/-- a name among names -/
def pB (z : Str) (ps : List Str) : Bool := (ps.map PyData.str).any fun y => PyData.eqv y (.str z)
theorem dp_strs : ∀ ps : List Str, PyData.depthAll (ps.map PyData.str) ≤ 60
  | [] => by simp [PyData.depthAll]
  | p :: ps => by
    have := dp_strs ps
    simp only [List.map_cons, PyData.depthAll, PyData.depth]
    omega
theorem in_names (z : Str) (ps : List Str) : dIn (.str z) (.list (ps.map .str)) = some (.bool (pB z ps)) := by
  unfold dIn dInB
  dsimp only
  rw [if_pos (Nat.le_trans (Nat.min_le_left _ _) (dp_strs ps))]
  rfl
theorem bindG_t4 {n i j k l : Nat} {a b d e : D} {S : Sto} : bindG (cfg con0 defs n false) (.tup [i, j, k, l]) (.tuple [a, b, d, e]) S = some ((((S.set i (.fro a)).set j (.fro b)).set k (.fro d)).set l (.fro e)) := (rfl)
/-- the fault of a command behind known names -/
def fault (ps : List Str) (c : Cd) : Option Str :=
  if nmB c.nm = false then some "wrong name" else if pB c.nm ps = true then some "named twice" else if guB c.gu = false then some "wrong guard" else if geB c.ge = false then some "wrong generator" else if efB c.ef = false then some "wrong effect" else none
def flD : Option Str → D
  | none => .none
  | some z => .str z
theorem r_fault {c : Cd} (ok : c.ok) (ps : List Str) : RF con0 defs 17 "command_fault" none [.list (ps.map .str), c.enc] = .ok (flD (fault ps c)) none := by
  obtain ⟨h1, _⟩ := f_nm ok
  obtain ⟨h2, _⟩ := f_gu ok
  obtain ⟨h3, _⟩ := f_ge ok
  obtain ⟨h4, _⟩ := f_ef ok
  have h5 := in_names c.nm ps
  have cE : con0 "EFFECTS" = some (.tuple efs) := rfl
  obtain ⟨nm, gu, ge, ef⟩ := c
  dsimp only at h1 h2 h3 h4 h5
  rw [RF_pl (d := d_command_fault) rfl rfl rfl]
  generalize PyData.list (ps.map .str) = kn at h5
  generalize PyData.tuple efs = ee at h4 cE
  unfold fault Cd.enc
  dsimp only
  cases q1 : nmB nm with
  | false => rw [q1] at h1; simp [bindG_t4, d_command_fault, b_command_fault, ev_call, h1, flD]
  | true =>
  rw [q1] at h1
  cases q2 : pB nm ps with
  | true => rw [q2] at h5; simp [bindG_t4, d_command_fault, b_command_fault, b_command_fault_5, ev_call, h1, h5, flD]
  | false =>
  rw [q2] at h5
  cases q3 : guB gu with
  | false => rw [q3] at h2; simp [bindG_t4, d_command_fault, b_command_fault, b_command_fault_5, b_command_fault_4, ev_call, h1, h5, h2, flD]
  | true =>
  rw [q3] at h2
  cases q4 : geB ge with
  | false => rw [q4] at h3; simp [bindG_t4, d_command_fault, b_command_fault, b_command_fault_5, b_command_fault_4, b_command_fault_3, ev_call, h1, h5, h2, h3, flD]
  | true =>
  rw [q4] at h3
  cases q5 : efB ef with
  | false => rw [q5] at h4; simp [bindG_t4, d_command_fault, b_command_fault, b_command_fault_5, b_command_fault_4, b_command_fault_3, b_command_fault_2, ev_call, h1, h5, h2, h3, cE, h4, flD]
  | true =>
  rw [q5] at h4
  simp [bindG_t4, d_command_fault, b_command_fault, b_command_fault_5, b_command_fault_4, b_command_fault_3, b_command_fault_2, b_command_fault_1, ev_call, h1, h5, h2, h3, cE, h4, flD]

end K55

namespace K55
open PySem PySem.Spec L2 Dv
/-- the first fault from place k on -/
def look (L : List Cd) : Nat → Nat → Option (Str × Nat)
  | _, 0 => none
  | k, m + 1 => match L[k]? with
    | some c => match fault ((L.take k).map Cd.nm) c with
      | some z => some (z, k)
      | none => look L (k + 1) m
    | none => none
def vd (f : Int) (L : List Cd) (m : Int) : Option (Str × Int) :=
  if f < -1000 ∨ 1000 < f then some ("wrong first", -1) else if L.length < 1 ∨ 4 < L.length then some ("wrong number", -1) else if m < 0 ∨ 6 < m then some ("wrong most", -1) else (look L 0 L.length).map fun p => (p.1, (p.2 : Int))
def gdD (f : Int) (L : List Cd) (m : Int) : D := .tuple [.int f, .tuple (L.map Cd.enc), .int m]
def outD (f : Int) (L : List Cd) (m : Int) : D := match vd f L m with
  | some p => .tuple [.str p.1, .int p.2]
  | none => gdD f L m
def mX (z : Str) (p : Int) : Xc := ⟨"MachineError", [("place", .int p), ("what", .str z)]⟩
theorem names_lc (n : Nat) (L : List Cd) (k : Nat) (hz : L.length ≤ 100) (f m a4 : Sl) : evF (cfg con0 defs n false) (.lc [("command", 5)] (.name 5) (.seq (.slice (.var 1) .none (.some (.var 3)))) .none (.item (.var 5) (.int 0))) [f, .fro (.list (L.map Cd.enc)), m, .fro (.int k), a4, .no] = .ok (.lst (((L.take k).map Cd.nm).map .str)) [f, .fro (.list (L.map Cd.enc)), m, .fro (.int k), a4, .no] := by
  have e := evF_lc (c := cfg con0 defs n false) (own := [("command", 5)]) (t := .name 5) (it := .seq (.slice (.var 1) .none (.some (.var 3)))) (cc := .none) (elt := .item (.var 5) (.int 0)) (S := [f, .fro (.list (L.map Cd.enc)), m, .fro (.int k), a4, .no]) (S1 := [f, .fro (.list (L.map Cd.enc)), m, .fro (.int k), a4, .no])
    Cd.enc (fun _ => true) (fun c => .str c.nm) (L.take k) (by simp [cutD_to, List.map_take]) (by simp) rfl (small (by simp; omega)) (fun c hc => ⟨[f, .fro (.list (L.map Cd.enc)), m, .fro (.int k), a4, .fro c.enc], by simp, by simp, by simp [Cd.enc, at0], by simp⟩)
  rw [e]
  simp
  rfl
theorem nn1 : dNotN .none .none = some (.bool false) := rfl
theorem nn2 (z : Str) : dNotN (.str z) .none = some (.bool true) := rfl
theorem m_step (L : List Cd) (okL : ∀ c ∈ L, c.ok) (hz : L.length ≤ 100) (k : Nat) (c : Cd) (hk : L[k]? = some c) (f m : D) (a3 a4 : Sl) :
    forB (cfg con0 defs 17 false) (.name 3) b_machine_1 (.int k) [.fro f, .fro (.list (L.map Cd.enc)), .fro m, a3, a4, .no] = match fault ((L.take k).map Cd.nm) c with
      | some z => .exc (mX z k) [.fro f, .fro (.list (L.map Cd.enc)), .fro m, .fro (.int k), .fro (.str z), .no]
      | none => .nx [.fro f, .fro (.list (L.map Cd.enc)), .fro m, .fro (.int k), .fro .none, .no] := by
  have h1 := r_fault (okL c (List.mem_of_getElem? hk)) ((L.take k).map Cd.nm)
  have h2 := names_lc 17 L k hz (.fro f) (.fro m) a4
  have h3 : dItem (.list (L.map Cd.enc)) (.int (k : Int)) = some c.enc := by
    simp [atI_natD, hk]
  rw [forB_def, bindG_name]
  generalize ((L.take k).map Cd.nm) = ps at h1 h2
  generalize hl : PyData.list (L.map Cd.enc) = ls at h2 h3
  show exs (cfg con0 defs 17 false) b_machine_1 [.fro f, .fro ls, .fro m, .fro (.int k), a4, .no] = _
  cases q : fault ps c with
  | none =>
    rw [q] at h1
    simp [b_machine_1, ev_call, h2, h3, h1, flD, nn1, -item_list]
  | some z =>
    rw [q] at h1
    simp [b_machine_1, ev_call, h2, h3, h1, flD, nn2, mX, -item_list]
theorem m_loop (L : List Cd) (okL : ∀ c ∈ L, c.ok) (hz : L.length ≤ 100) (f m : D) : ∀ (j k : Nat) (a3 a4 : Sl), k + j = L.length →
    ∃ b3 b4, forL (forB (cfg con0 defs 17 false) (.name 3) b_machine_1) (rng (k : Int) j) [.fro f, .fro (.list (L.map Cd.enc)), .fro m, a3, a4, .no] = match look L k j with
      | some p => .exc (mX p.1 p.2) [.fro f, .fro (.list (L.map Cd.enc)), .fro m, b3, b4, .no]
      | none => .nx [.fro f, .fro (.list (L.map Cd.enc)), .fro m, b3, b4, .no]
  | 0, k, a3, a4, _ => ⟨a3, a4, rfl⟩
  | j + 1, k, a3, a4, h => by
    have hk : L[k]? = some (L[k]'(by omega)) := List.getElem?_eq_getElem (by omega)
    have st := m_step L okL hz k _ hk f m a3 a4
    rw [rng_succ]
    unfold look
    rw [hk]
    dsimp only
    cases q : fault ((L.take k).map Cd.nm) (L[k]'(by omega)) with
    | some z =>
      rw [q] at st
      exact ⟨_, _, by rw [forL_exc st]⟩
    | none =>
      rw [q] at st
      obtain ⟨b3, b4, e⟩ := m_loop L okL hz f m j (k + 1) (.fro (.int k)) (.fro .none) (by omega)
      exact ⟨b3, b4, by rw [forL_nxc st, e]⟩
theorem r_machine55 (L : List Cd) (okL : ∀ c ∈ L, c.ok) (hz : L.length ≤ 100) (f m : Int) : RF con0 defs 18 "machine" none [.int f, .list (L.map Cd.enc), .int m] = match vd f L m with
    | some p => .exc (mX p.1 p.2)
    | none => .ok (gdD f L m) none := by
  have g1 : con0 "GREAT" = some (.int 1000) := rfl
  have g2 : con0 "COMMANDS" = some (.int 4) := rfl
  have g3 : con0 "LONG" = some (.int 6) := rfl
  obtain ⟨b3, b4, e⟩ := m_loop L okL hz (.int f) (.int m) L.length 0 .no .no (by omega)
  have lc := evF_lc (c := cfg con0 defs 17 false) (own := [("command", 5)]) (t := .name 5) (it := .seq (.var 1)) (cc := .none) (elt := .bf .tuple1 (.cons (.var 5) (.nil))) (S := [.fro (.int f), .fro (.list (L.map Cd.enc)), .fro (.int m), b3, b4, .no]) (S1 := [.fro (.int f), .fro (.list (L.map Cd.enc)), .fro (.int m), b3, b4, .no])
    Cd.enc (fun _ => true) Cd.enc L (by simp) (by simp) rfl (small (by omega)) (fun c hc => ⟨[.fro (.int f), .fro (.list (L.map Cd.enc)), .fro (.int m), b3, b4, .fro c.enc], by simp, by simp, by simp [Cd.enc], by simp⟩)
  have ln : dLen (.list (L.map Cd.enc)) = some (.int L.length) := by simp
  have rr : range62 (L.length : Int) = true := r62 (by omega) (by omega)
  have tup : dTuple (.list (L.map Cd.enc)) = some (.tuple (L.map Cd.enc)) := rfl
  rw [RF_pl (d := d_machine) rfl rfl rfl]
  unfold vd gdD
  have flt : (L.filter fun _ => true) = L := by simp
  rw [flt] at lc
  simp only [back_nil, back_cons, wipe_nil, wipe_cons, List.map_cons, List.map_nil] at lc
  by_cases h1 : f < -1000 ∨ 1000 < f
  · have : ¬ (-1000 ≤ f ∧ f ≤ 1000) := by omega
    rw [if_pos h1]
    generalize PyData.list (L.map Cd.enc) = ls
    by_cases h : -1000 ≤ f
    · have : ¬ f ≤ 1000 := by omega
      simp [d_machine, b_machine, g1, h, this, mX]
    · simp [d_machine, b_machine, g1, h, mX]
  rw [if_neg h1]
  have h1a : -1000 ≤ f := by omega
  have h1b : f ≤ 1000 := by omega
  by_cases h2 : L.length < 1 ∨ 4 < L.length
  · rw [if_pos h2]
    generalize PyData.list (L.map Cd.enc) = ls at ln
    by_cases h : 1 ≤ L.length
    · have h' : (1 : Int) ≤ (L.length : Int) := by omega
      have : ¬ (L.length : Int) ≤ 4 := by omega
      simp [d_machine, b_machine, b_machine_5, g1, g2, h1a, h1b, ln, h', this, mX]
    · have h' : ¬ (1 : Int) ≤ (L.length : Int) := by omega
      simp [d_machine, b_machine, b_machine_5, g1, g2, h1a, h1b, ln, h', mX]
  rw [if_neg h2]
  have h2a : (1 : Int) ≤ (L.length : Int) := by omega
  have h2b : (L.length : Int) ≤ 4 := by omega
  by_cases h3 : m < 0 ∨ 6 < m
  · rw [if_pos h3]
    generalize PyData.list (L.map Cd.enc) = ls at ln
    by_cases h : 0 ≤ m
    · have : ¬ m ≤ 6 := by omega
      simp [d_machine, b_machine, b_machine_5, b_machine_4, g1, g2, g3, h1a, h1b, ln, h2a, h2b, h, this, mX]
    · simp [d_machine, b_machine, b_machine_5, b_machine_4, g1, g2, g3, h1a, h1b, ln, h2a, h2b, h, mX]
  rw [if_neg h3]
  have h3a : 0 ≤ m := by omega
  have h3b : m ≤ 6 := by omega
  have e' : forL (forB (cfg con0 defs 17 false) (.name 3) b_machine_1) (rng 0 L.length) [.fro (.int f), .fro (.list (L.map Cd.enc)), .fro (.int m), .no, .no, .no] = _ := e
  generalize hl : PyData.list (L.map Cd.enc) = ls at ln e' lc tup
  generalize PyData.tuple (L.map Cd.enc) = tp at tup
  cases q : look L 0 L.length with
  | some p =>
    rw [q] at e'
    simp [-forB_def, d_machine, b_machine, b_machine_5, b_machine_4, b_machine_3, g1, g2, g3, h1a, h1b, ln, h2a, h2b, h3a, h3b, rr, e']
  | none =>
    rw [q] at e'
    simp [-forB_def, d_machine, b_machine, b_machine_5, b_machine_4, b_machine_3, b_machine_2, g1, g2, g3, h1a, h1b, ln, h2a, h2b, h3a, h3b, rr, e', lc, hl, tup]

end K55

namespace K55
open PySem PySem.Spec L2 Dv
theorem r_told55 (L : List Cd) (okL : ∀ c ∈ L, c.ok) (hz : L.length ≤ 100) (f m : Int) : RF con0 defs 19 "_law_told" none [.int f, .list (L.map Cd.enc), .int m] = .ok (outD f L m) none := by
  have h := r_machine55 L okL hz f m
  have hl : dListOf (.list (L.map Cd.enc)) = some (L.map Cd.enc) := rfl
  have hz' : (L.map Cd.enc).length ≤ sizeLine := small (by simp; omega)
  rw [RF_pl (d := d_l_told) rfl rfl rfl]
  unfold outD
  cases q : vd f L m with
  | none =>
    rw [q] at h
    generalize hb : L.map Cd.enc = ls at h hl hz'
    dsimp only at h ⊢
    generalize gdD f L m = g at h ⊢
    simp [d_l_told, b_l_told, ev_call, h]
  | some p =>
    rw [q] at h
    generalize hb : L.map Cd.enc = ls at h hl hz'
    dsimp only at h ⊢
    have hx : ∀ S : Sto, 3 < S.length → tryU "MachineError" 3 [.fld "what", .fld "place"] (.exc (mX p.1 p.2) S) = .rt (.tuple [.str p.1, .int p.2]) S := fun S hS => tryU_exc rfl hS rfl
    simp [d_l_told, b_l_told, ev_call, h, hx]
theorem names_lc2 (n : Nat) (L : List Cd) (k : Nat) (hz : L.length ≤ 100) (f m a4 a5 a6 a7 : Sl) : evF (cfg con0 defs n false) (.lc [("_law_command", 8)] (.name 8) (.seq (.slice (.var 1) .none (.some (.var 3)))) .none (.item (.var 8) (.int 0))) [f, .fro (.list (L.map Cd.enc)), m, .fro (.int k), a4, a5, a6, a7, .no] = .ok (.lst (((L.take k).map Cd.nm).map .str)) [f, .fro (.list (L.map Cd.enc)), m, .fro (.int k), a4, a5, a6, a7, .no] := by
  have e := evF_lc (c := cfg con0 defs n false) (own := [("_law_command", 8)]) (t := .name 8) (it := .seq (.slice (.var 1) .none (.some (.var 3)))) (cc := .none) (elt := .item (.var 8) (.int 0)) (S := [f, .fro (.list (L.map Cd.enc)), m, .fro (.int k), a4, a5, a6, a7, .no]) (S1 := [f, .fro (.list (L.map Cd.enc)), m, .fro (.int k), a4, a5, a6, a7, .no])
    Cd.enc (fun _ => true) (fun c => .str c.nm) (L.take k) (by simp [cutD_to, List.map_take]) (by simp) rfl (small (by simp; omega)) (fun c hc => ⟨[f, .fro (.list (L.map Cd.enc)), m, .fro (.int k), a4, a5, a6, a7, .fro c.enc], by simp, by simp, by simp [Cd.enc, at0], by simp⟩)
  rw [e]
  simp
  rfl
theorem d_step (L : List Cd) (okL : ∀ c ∈ L, c.ok) (hz : L.length ≤ 100) (k : Nat) (c : Cd) (hk : L[k]? = some c) (f m : D) (a3 a4 a5 a6 a7 : Sl) :
    ∃ S' b3 b4 b5 b6 b7, forB (cfg con0 defs 18 false) (.name 3) b_l_due_5 (.int k) [.fro f, .fro (.list (L.map Cd.enc)), .fro m, a3, a4, a5, a6, a7, .no] = match fault ((L.take k).map Cd.nm) c with
      | some z => .rt (.tuple [.str z, .int k]) S'
      | none => .nx [.fro f, .fro (.list (L.map Cd.enc)), .fro m, b3, b4, b5, b6, b7, .no] := by
  have ok := okL c (List.mem_of_getElem? hk)
  obtain ⟨_, h1⟩ := f_nm ok
  obtain ⟨_, h2, _⟩ := f_gu ok
  obtain ⟨_, h3, _⟩ := f_ge ok
  obtain ⟨_, h4⟩ := f_ef ok
  have h5 := in_names c.nm ((L.take k).map Cd.nm)
  have hn := names_lc2 18 L k hz (.fro f) (.fro m) (.fro (.str c.nm)) (.fro c.gu) (.fro c.ge) (.fro (.str c.ef))
  have hi : dItem (.list (L.map Cd.enc)) (.int (k : Int)) = some (.tuple [.str c.nm, c.gu, c.ge, .str c.ef]) := by
    simp [atI_natD, hk, Cd.enc]
  obtain ⟨nm, gu, ge, ef⟩ := c
  dsimp only at h1 h2 h3 h4 h5 hn hi
  unfold fault
  dsimp only
  generalize ((L.take k).map Cd.nm) = ps at h5 hn ⊢
  generalize PyData.list (L.map Cd.enc) = ls at hn hi ⊢
  rw [forB_def, bindG_name]
  show ∃ S' b3 b4 b5 b6 b7, exs (cfg con0 defs 18 false) b_l_due_5 [.fro f, .fro ls, .fro m, .fro (.int k), a4, a5, a6, a7, .no] = _
  unfold badNm at h1
  unfold badGu at h2
  unfold badGe at h3
  unfold efs at h4
  cases q1 : nmB nm with
  | false =>
    rw [q1] at h1
    exact ⟨_, .no, .no, .no, .no, .no, by simp [b_l_due_5, bindG_t4, hi, h1, -item_list]; rfl⟩
  | true =>
  rw [q1] at h1
  cases q2 : pB nm ps with
  | true =>
    rw [q2] at h5
    exact ⟨_, .no, .no, .no, .no, .no, by simp [b_l_due_5, b_l_due_4, bindG_t4, hi, h1, hn, h5, -item_list]; rfl⟩
  | false =>
  rw [q2] at h5
  cases q3 : guB gu with
  | false =>
    rw [q3] at h2
    exact ⟨_, .no, .no, .no, .no, .no, by simp [b_l_due_5, b_l_due_4, b_l_due_3, bindG_t4, hi, h1, hn, h5, h2, -item_list]; rfl⟩
  | true =>
  rw [q3] at h2
  cases q4 : geB ge with
  | false =>
    rw [q4] at h3
    exact ⟨_, .no, .no, .no, .no, .no, by simp [b_l_due_5, b_l_due_4, b_l_due_3, b_l_due_2, bindG_t4, hi, h1, hn, h5, h2, h3, -item_list]; rfl⟩
  | true =>
  rw [q4] at h3
  cases q5 : efB ef with
  | false =>
    rw [q5] at h4
    exact ⟨_, .no, .no, .no, .no, .no, by simp [b_l_due_5, b_l_due_4, b_l_due_3, b_l_due_2, b_l_due_1, bindG_t4, hi, h1, hn, h5, h2, h3, h4, -item_list]; rfl⟩
  | true =>
  rw [q5] at h4
  exact ⟨[], _, _, _, _, _, by simp [b_l_due_5, b_l_due_4, b_l_due_3, b_l_due_2, b_l_due_1, bindG_t4, hi, h1, hn, h5, h2, h3, h4, -item_list]; exact ⟨rfl, rfl, rfl, rfl, rfl⟩⟩

end K55

namespace K55
open PySem PySem.Spec L2 Dv
theorem forL_rtc {body : D → Sto → Fl} {d r : D} {ds : List D} {S S' : Sto} (h : body d S = .rt r S') : forL body (d :: ds) S = .rt r S' := by
  rw [forL, h]
theorem d_loop (L : List Cd) (okL : ∀ c ∈ L, c.ok) (hz : L.length ≤ 100) (f m : D) : ∀ (j k : Nat) (a3 a4 a5 a6 a7 : Sl), k + j = L.length →
    ∃ S' b3 b4 b5 b6 b7, forL (forB (cfg con0 defs 18 false) (.name 3) b_l_due_5) (rng (k : Int) j) [.fro f, .fro (.list (L.map Cd.enc)), .fro m, a3, a4, a5, a6, a7, .no] = match look L k j with
      | some p => .rt (.tuple [.str p.1, .int p.2]) S'
      | none => .nx [.fro f, .fro (.list (L.map Cd.enc)), .fro m, b3, b4, b5, b6, b7, .no]
  | 0, k, a3, a4, a5, a6, a7, _ => ⟨[], a3, a4, a5, a6, a7, rfl⟩
  | j + 1, k, a3, a4, a5, a6, a7, h => by
    have hk : L[k]? = some (L[k]'(by omega)) := List.getElem?_eq_getElem (by omega)
    obtain ⟨S', b3, b4, b5, b6, b7, st⟩ := d_step L okL hz k _ hk f m a3 a4 a5 a6 a7
    rw [rng_succ]
    unfold look
    rw [hk]
    dsimp only
    cases q : fault ((L.take k).map Cd.nm) (L[k]'(by omega)) with
    | some z =>
      rw [q] at st
      exact ⟨_, .no, .no, .no, .no, .no, by rw [forL_rtc st]⟩
    | none =>
      rw [q] at st
      obtain ⟨S2, c3, c4, c5, c6, c7, e⟩ := d_loop L okL hz f m j (k + 1) b3 b4 b5 b6 b7 (by omega)
      exact ⟨S2, c3, c4, c5, c6, c7, by rw [forL_nxc st, e]⟩
theorem r_due55 (L : List Cd) (okL : ∀ c ∈ L, c.ok) (hz : L.length ≤ 100) (f m : Int) : RF con0 defs 19 "_law_due" none [.int f, .list (L.map Cd.enc), .int m] = .ok (outD f L m) none := by
  obtain ⟨S', b3, b4, b5, b6, b7, e⟩ := d_loop L okL hz (.int f) (.int m) L.length 0 .no .no .no .no .no (by omega)
  have ln : dLen (.list (L.map Cd.enc)) = some (.int L.length) := by simp
  have rr : range62 (L.length : Int) = true := r62 (by omega) (by omega)
  have tup : dTuple (.list (L.map Cd.enc)) = some (.tuple (L.map Cd.enc)) := rfl
  rw [RF_pl (d := d_l_due) rfl rfl rfl]
  unfold outD vd gdD
  by_cases h1 : f < -1000 ∨ 1000 < f
  · rw [if_pos h1]
    generalize PyData.list (L.map Cd.enc) = ls
    by_cases h : f < -1000
    · simp [d_l_due, b_l_due, h]
    · have : 1000 < f := by omega
      simp [d_l_due, b_l_due, h, this]
  rw [if_neg h1]
  have h1a : ¬ f < -1000 := by omega
  have h1b : ¬ 1000 < f := by omega
  by_cases h2 : L.length < 1 ∨ 4 < L.length
  · rw [if_pos h2]
    generalize PyData.list (L.map Cd.enc) = ls at ln
    by_cases h : L.length < 1
    · have h' : (L.length : Int) < 1 := by omega
      simp [d_l_due, b_l_due, b_l_due_9, h1a, h1b, ln, h']
    · have h' : ¬ (L.length : Int) < 1 := by omega
      have : (4 : Int) < (L.length : Int) := by omega
      simp [d_l_due, b_l_due, b_l_due_9, h1a, h1b, ln, h', this]
  rw [if_neg h2]
  have h2a : ¬ (L.length : Int) < 1 := by omega
  have h2b : ¬ (4 : Int) < (L.length : Int) := by omega
  by_cases h3 : m < 0 ∨ 6 < m
  · rw [if_pos h3]
    generalize PyData.list (L.map Cd.enc) = ls at ln
    by_cases h : m < 0
    · simp [d_l_due, b_l_due, b_l_due_9, b_l_due_8, h1a, h1b, ln, h2a, h2b, h]
    · have : 6 < m := by omega
      simp [d_l_due, b_l_due, b_l_due_9, b_l_due_8, h1a, h1b, ln, h2a, h2b, h, this]
  rw [if_neg h3]
  have h3a : ¬ m < 0 := by omega
  have h3b : ¬ 6 < m := by omega
  have e' : forL (forB (cfg con0 defs 18 false) (.name 3) b_l_due_5) (rng 0 L.length) [.fro (.int f), .fro (.list (L.map Cd.enc)), .fro (.int m), .no, .no, .no, .no, .no, .no] = _ := e
  generalize hl : PyData.list (L.map Cd.enc) = ls at ln e' tup
  generalize PyData.tuple (L.map Cd.enc) = tp at tup
  cases q : look L 0 L.length with
  | some p =>
    rw [q] at e'
    simp [-forB_def, d_l_due, b_l_due, b_l_due_9, b_l_due_8, b_l_due_7, h1a, h1b, ln, h2a, h2b, h3a, h3b, rr, e']
  | none =>
    rw [q] at e'
    simp [-forB_def, d_l_due, b_l_due, b_l_due_9, b_l_due_8, b_l_due_7, b_l_due_6, h1a, h1b, ln, h2a, h2b, h3a, h3b, rr, e', tup]
/-- what is told holds no list and is not deep -/
def flat (d : D) : Bool := noLst d && nod d && decide (d.depth ≤ 20)
theorem cd_flat {c : Cd} (ok : c.ok) : noLst c.enc = true ∧ nod c.enc = true ∧ c.enc.depth ≤ 12 := by
  obtain ⟨_, _, h2⟩ := f_gu ok
  obtain ⟨_, _, h3⟩ := f_ge ok
  unfold plainT at h2 h3
  simp only [Bool.and_eq_true, decide_eq_true_eq] at h2 h3
  obtain ⟨⟨a1, a2⟩, a3⟩ := h2
  obtain ⟨⟨b1, b2⟩, b3⟩ := h3
  refine ⟨by simp [Cd.enc, noLst, noLsts, a1, b1], by simp [Cd.enc, nod, nods, a2, b2], ?_⟩
  simp only [Cd.enc, PyData.depth, PyData.depthAll]
  omega
theorem cds_flat : ∀ {L : List Cd}, (∀ c ∈ L, c.ok) → noLsts (L.map Cd.enc) = true ∧ nods (L.map Cd.enc) = true ∧ PyData.depthAll (L.map Cd.enc) ≤ 13
  | [], _ => ⟨rfl, rfl, by simp [PyData.depthAll]⟩
  | c :: L, h => by
    obtain ⟨a1, a2, a3⟩ := cd_flat (h c (by simp))
    obtain ⟨b1, b2, b3⟩ := cds_flat (L := L) fun x hx => h x (by simp [hx])
    refine ⟨by simp [noLsts, a1, b1], by simp [nods, a2, b2], ?_⟩
    simp only [List.map_cons, PyData.depthAll]
    omega
theorem out_flat (L : List Cd) (okL : ∀ c ∈ L, c.ok) (f m : Int) : noLst (outD f L m) = true ∧ nod (outD f L m) = true ∧ (outD f L m).depth ≤ 60 := by
  obtain ⟨b1, b2, b3⟩ := cds_flat okL
  unfold outD
  cases vd f L m with
  | some p => exact ⟨rfl, rfl, by simp [PyData.depth, PyData.depthAll]⟩
  | none =>
    refine ⟨by simp [gdD, noLst, noLsts, b1], by simp [gdD, nod, nods, b2], ?_⟩
    simp only [gdD, PyData.depth, PyData.depthAll]
    omega

end K55

namespace K55
open PySem PySem.Spec L2 Dv
theorem ab_mem {a b : Int} (ha : 0 ≤ a ∧ a < 4) (hb : 0 ≤ b ∧ b < 5) : abD a b ∈ guL := by
  unfold guL
  refine List.mem_append_left _ (List.mem_append_left _ (List.mem_append_left _ (List.mem_append_left _ (List.mem_flatMap.mpr ⟨a, ups_mem ha, List.mem_map.mpr ⟨b, ups_mem hb, rfl⟩⟩))))
theorem am_mem {b : Int} (hb : 0 ≤ b ∧ b < 5) : PyData.tuple [.str "atmost", .int (2 + b)] ∈ guL := by
  unfold guL
  exact List.mem_append_left _ (List.mem_append_left _ (List.mem_append_left _ (List.mem_append_right _ (List.mem_map.mpr ⟨b, ups_mem hb, rfl⟩))))
theorem na_mem {b : Int} (hb : 0 ≤ b ∧ b < 5) : PyData.tuple [.str "not", .tuple [.str "atmost", .int b]] ∈ guL := by
  unfold guL
  exact List.mem_append_left _ (List.mem_append_left _ (List.mem_append_right _ (List.mem_map.mpr ⟨b, ups_mem hb, rfl⟩)))
theorem g1_mem {g : D} (h : g ∈ [PyData.tuple [.str "atmost", .int 1], .tuple [.str "divides", .int 7]]) : g ∈ guL := by
  unfold guL
  exact List.mem_append_left _ (List.mem_append_right _ h)
theorem gb_mem {g : D} (h : g ∈ badGu) : g ∈ guL := by
  unfold guL
  exact List.mem_append_right _ h
theorem it_mem {c d : Int} (hc : 0 ≤ c ∧ c < 3) (hd : 0 ≤ d ∧ d < 3) : itD c d ∈ geL := by
  unfold geL
  exact List.mem_append_left _ (List.mem_append_left _ (List.mem_flatMap.mpr ⟨c, ups_mem hc, List.mem_flatMap.mpr ⟨d, ups_mem hd, by simp⟩⟩))
theorem kp_mem {c d : Int} (hc : 0 ≤ c ∧ c < 3) (hd : 0 ≤ d ∧ d < 3) : PyData.tuple [.str "kept", itD c d, abD c d] ∈ geL := by
  unfold geL
  exact List.mem_append_left _ (List.mem_append_left _ (List.mem_flatMap.mpr ⟨c, ups_mem hc, List.mem_flatMap.mpr ⟨d, ups_mem hd, by simp⟩⟩))
theorem g0_mem : PyData.tuple [.str "int", .int 0, .int 1] ∈ geL := by
  unfold geL
  exact List.mem_append_left _ (List.mem_append_right _ (by simp))
theorem eb_mem {g : D} (h : g ∈ badGe) : g ∈ geL := by
  unfold geL
  exact List.mem_append_right _ h
theorem r_about (n : Nat) (a b : Int) : RF con0 defs (n + 1) "_law_about" none [.list [.int a, .int b]] = .ok (abD a b) none := by
  rw [RF_pl (d := d_l_about) rfl rfl rfl]
  unfold abD
  by_cases h0 : a = 0
  · simp [d_l_about, b_l_about, at0, at1, h0]
  · by_cases h1 : a = 1
    · simp [d_l_about, b_l_about, b_l_about_3, at0, at1, h1]
    · by_cases h2 : a = 2
      · simp [d_l_about, b_l_about, b_l_about_3, b_l_about_2, at0, at1, h2]
      · simp [d_l_about, b_l_about, b_l_about_3, b_l_about_2, b_l_about_1, at0, at1, h0, h1, h2]
theorem cut10r {ds : List Int} (h : ds.length = 10) (dr : ∀ (i : Nat) (h1 : i < ds.length) (h2 : i < [(4 : Int), 5, 3, 3, 3, 4, 5, 3, 3, 3].length), 0 ≤ ds[i] ∧ ds[i] < [(4 : Int), 5, 3, 3, 3, 4, 5, 3, 3, 3][i]) (j : Nat) (hj : j < 4) :
    ∃ a b c d e, cutD (zs ds) (some (5 * ((j : Int).fdiv 2))) (some (5 * ((j : Int).fdiv 2) + 5)) = zs [a, b, c, d, e] ∧ (0 ≤ a ∧ a < 4) ∧ (0 ≤ b ∧ b < 5) ∧ (0 ≤ c ∧ c < 3) ∧ (0 ≤ d ∧ d < 3) ∧ (0 ≤ e ∧ e < 3) := by
  match ds, h, dr with
  | [a0, a1, a2, a3, a4, a5, a6, a7, a8, a9], _, dr =>
    have h0 := dr 0 (by simp) (by simp)
    have h1 := dr 1 (by simp) (by simp)
    have h2 := dr 2 (by simp) (by simp)
    have h3 := dr 3 (by simp) (by simp)
    have h4 := dr 4 (by simp) (by simp)
    have h5 := dr 5 (by simp) (by simp)
    have h6 := dr 6 (by simp) (by simp)
    have h7 := dr 7 (by simp) (by simp)
    have h8 := dr 8 (by simp) (by simp)
    have h9 := dr 9 (by simp) (by simp)
    match j, hj with
    | 0, _ => exact ⟨a0, a1, a2, a3, a4, rfl, h0, h1, h2, h3, h4⟩
    | 1, _ => exact ⟨a0, a1, a2, a3, a4, rfl, h0, h1, h2, h3, h4⟩
    | 2, _ => exact ⟨a5, a6, a7, a8, a9, rfl, h5, h6, h7, h8, h9⟩
    | 3, _ => exact ⟨a5, a6, a7, a8, a9, rfl, h5, h6, h7, h8, h9⟩
theorem names4 {j : Nat} (hj : j < 4) : ∃ z : Str, dItem (.list [.str "put", .str "get", .str "reset", .str "jump"]) (.int j) = some (.str z) ∧ z ∈ nmL := by
  match j, hj with
  | 0, _ => exact ⟨"put", rfl, by simp [nmL]⟩
  | 1, _ => exact ⟨"get", rfl, by simp [nmL]⟩
  | 2, _ => exact ⟨"reset", rfl, by simp [nmL]⟩
  | 3, _ => exact ⟨"jump", rfl, by simp [nmL]⟩
theorem hows3 (x : Int) : ∃ w : Str, dItem (.list [.str "add", .str "take", .str "set"]) (.int (x.fmod 3)) = some (.str w) ∧ w ∈ efL := by
  have h : 0 ≤ x.fmod 3 ∧ x.fmod 3 < 3 := fmod_rng (by omega)
  obtain ⟨k, hk⟩ : ∃ k : Nat, x.fmod 3 = k := ⟨(x.fmod 3).toNat, by omega⟩
  rw [hk]
  have hk3 : k < 3 := by omega
  match k, hk3 with
  | 0, _ => exact ⟨"add", rfl, by simp [efL]⟩
  | 1, _ => exact ⟨"take", rfl, by simp [efL]⟩
  | 2, _ => exact ⟨"set", rfl, by simp [efL]⟩
theorem cmd_step (n : Nat) (ns : List Int) (k j : Nat) (hk : k ≤ 900) (hj : j < 4) (L : List Cd) (hL : ∀ c ∈ L, c.ok) (hz : L.length ≤ j) (s2 s4 s5 s6 s7 : Sl) :
    ∃ (L' : List Cd) (b4 b5 b6 b7 : Sl), forB (cfg con0 defs (n + 2) false) (.name 4) b_l_commands_3 (.int j) [.fro (.list (zs ns)), .fro (.int k), s2, .own (.lst (L.map Cd.enc)), s4, s5, s6, s7] = .nx [.fro (.list (zs ns)), .fro (.int k), s2, .own (.lst (L'.map Cd.enc)), b4, b5, b6, b7] ∧ (∀ c ∈ L', c.ok) ∧ L'.length ≤ j + 1 := by
  have hm : 0 ≤ (j : Int).fmod 2 ∧ (j : Int).fmod 2 < 2 := fmod_rng (by omega)
  obtain ⟨q, hq⟩ : ∃ q : Nat, (j : Int).fmod 2 = q := ⟨((j : Int).fmod 2).toNat, by omega⟩
  obtain ⟨ds, hd, dl, dr⟩ := r_draw n ns (k + 1 + q) [4, 5, 3, 3, 3, 4, 5, 3, 3, 3] (by omega) (by simp) (by simp)
  have dl : ds.length = 10 := dl
  obtain ⟨a, b, c, d, e, hc, ra, rb, rc, rd, re⟩ := cut10r dl dr j hj
  have hg := r_about (n + 1) a b
  have hg2 := r_about (n + 1) c d
  obtain ⟨nm, hnm, mnm⟩ := names4 hj
  obtain ⟨hw, hhw, mhw⟩ := hows3 (e + j)
  have e1 : (k : Int) + 1 + (j : Int).fmod 2 = ((k + 1 + q : Nat) : Int) := by omega
  have dv : dDiv (.int (j : Int)) (.int 2) = some (.int ((j : Int).fdiv 2)) := div_int ⟨by decide, by omega⟩
  have m5 : dMul (.int 5) (.int ((j : Int).fdiv 2)) = some (.int (5 * ((j : Int).fdiv 2))) := mul_intD (.inl (by decide))
  have hs : L.length < sizeLine := small' (by omega)
  obtain ⟨gu, okgu, hgu⟩ : ∃ gu : D, gu ∈ guL ∧ (if a = 3 then PyData.tuple [.str "atmost", .int (2 + b)] else abD a b) = gu := by
    by_cases h : a = 3
    · exact ⟨_, am_mem rb, by rw [if_pos h]⟩
    · exact ⟨_, ab_mem ra rb, by rw [if_neg h]⟩
  obtain ⟨ge, okge, hge⟩ : ∃ ge : D, ge ∈ geL ∧ (if e = 0 then PyData.tuple [.str "kept", .tuple [.str "int", .int (c - 1), .int (c - 1 + d)], abD c d] else .tuple [.str "int", .int (c - 1), .int (c - 1 + d)]) = ge := by
    by_cases h : e = 0
    · exact ⟨_, kp_mem rc rd, by rw [if_pos h]; rfl⟩
    · exact ⟨_, it_mem rc rd, by rw [if_neg h]; rfl⟩
  have i0 : dItem (.list (zs [a, b, c, d, e])) (.int 0) = some (.int a) := rfl
  have i1 : dItem (.list (zs [a, b, c, d, e])) (.int 1) = some (.int b) := rfl
  have i2 : dItem (.list (zs [a, b, c, d, e])) (.int 2) = some (.int c) := rfl
  have i3 : dItem (.list (zs [a, b, c, d, e])) (.int 3) = some (.int d) := rfl
  have i4 : dItem (.list (zs [a, b, c, d, e])) (.int 4) = some (.int e) := rfl
  have hd' : RF con0 defs (n + 2) "_law_draw" none [.list (zs ns), .int ((k : Int) + 1 + (j : Int).fmod 2), .list [.int 4, .int 5, .int 3, .int 3, .int 3, .int 4, .int 5, .int 3, .int 3, .int 3]] = .ok (.list (zs ds)) none := by rw [e1]; exact hd
  have hg : RF con0 defs (n + 2) "_law_about" none [.list (zs [a, b])] = .ok (abD a b) none := hg
  have hnew : PyData.tuple [.str nm, gu, ge, .str hw] = (Cd.mk nm gu ge hw).enc := rfl
  generalize hD : zs [a, b, c, d, e] = dg at hc i0 i1 i2 i3 i4
  have c2 : cutD dg none (some 2) = zs [a, b] := by rw [← hD]; rfl
  generalize zs [a, b] = gd at hg c2
  generalize abD a b = g at hg hgu
  generalize abD c d = g2 at hg2 hge
  refine ⟨L ++ [⟨nm, gu, ge, hw⟩], .fro (.int j), .fro (.list dg), .fro gu, .fro ge, ?_, fun x hx => ?_, by simp; omega⟩
  · have x1 : forB (cfg con0 defs (n + 2) false) (.name 4) b_l_commands_3 (.int j) [.fro (.list (zs ns)), .fro (.int k), s2, .own (.lst (L.map Cd.enc)), s4, s5, s6, s7] = exs (cfg con0 defs (n + 2) false) b_l_commands_2 [.fro (.list (zs ns)), .fro (.int k), s2, .own (.lst (L.map Cd.enc)), .fro (.int j), .fro (.list dg), .fro gu, s7] := by
      rw [forB_def, bindG_name, ← hgu]
      by_cases h : a = 3 <;> simp [-forB_def, b_l_commands_3, ev_call, hd', dv, m5, hc, c2, -zs_cons, hg, -item_list, i0, i1, h]
    have x2 : exs (cfg con0 defs (n + 2) false) b_l_commands_2 [.fro (.list (zs ns)), .fro (.int k), s2, .own (.lst (L.map Cd.enc)), .fro (.int j), .fro (.list dg), .fro gu, s7] = exs (cfg con0 defs (n + 2) false) b_l_commands_1 [.fro (.list (zs ns)), .fro (.int k), s2, .own (.lst (L.map Cd.enc)), .fro (.int j), .fro (.list dg), .fro gu, .fro ge] := by
      rw [← hge]
      by_cases h : e = 0 <;> simp [b_l_commands_2, ev_call, -item_list, i2, i3, i4, hg2, h]
    rw [x1, x2]
    simp [b_l_commands_1, -item_list, hnm, i4, hhw, hs, hnew]
  · rcases List.mem_append.mp hx with h | h
    · exact hL x h
    · rw [List.mem_singleton.mp h]; exact ⟨mnm, okgu, okge, mhw⟩
theorem r_commands (n : Nat) (ns : List Int) (k : Nat) (hk : k ≤ 900) : ∃ L : List Cd, RF con0 defs (n + 3) "_law_commands" none [.list (zs ns), .int k] = .ok (.list (L.map Cd.enc)) none ∧ (∀ c ∈ L, c.ok) ∧ L.length ≤ 4 := by
  obtain ⟨ds, hd, dl, dr⟩ := r_draw n ns k [4] (by omega) (by simp) (by simp)
  have dl : ds.length = 1 := dl
  obtain ⟨a, rfl⟩ : ∃ a, ds = [a] := match ds, dl with | [a], _ => ⟨a, rfl⟩
  have ha := dr 0 (by simp) (by simp)
  simp at ha
  obtain ⟨q, rfl⟩ : ∃ q : Nat, a = q := ⟨a.toNat, by omega⟩
  obtain ⟨S', h, L, b4, b5, b6, b7, okL, hL, rfl⟩ := forL_inv (body := forB (cfg con0 defs (n + 2) false) (.name 4) b_l_commands_3) (fun i S => ∃ (L : List Cd) (b4 b5 b6 b7 : Sl), (∀ c ∈ L, c.ok) ∧ L.length ≤ i ∧ S = [.fro (.list (zs ns)), .fro (.int k), .fro (.list (zs [(q : Int)])), .own (.lst (L.map Cd.enc)), b4, b5, b6, b7]) (rng 0 (1 + q)) [.fro (.list (zs ns)), .fro (.int k), .fro (.list (zs [(q : Int)])), .own (.lst []), .no, .no, .no, .no] 0 ⟨[], _, _, _, _, by simp, by simp, rfl⟩ (by
    rintro i hi S ⟨L, b4, b5, b6, b7, okL, hL, rfl⟩
    rw [Nat.zero_add] at *
    have hi : i < 1 + q := by simpa using hi
    rw [rng_elem, Int.zero_add]
    obtain ⟨L', c4, c5, c6, c7, h, okL', hL'⟩ := cmd_step n ns k i hk (by omega) L okL hL (.fro (.list (zs [(q : Int)]))) b4 b5 b6 b7
    exact ⟨_, .inl h, L', _, _, _, _, okL', hL', rfl⟩)
  refine ⟨L, ?_, okL, by simp at hL; omega⟩
  have rr : range62 (1 + (q : Int)) = true := r62 (by omega) (by omega)
  have tn : (1 + (q : Int)).toNat = 1 + q := by omega
  have i0 : dItem (.list (zs [(q : Int)])) (.int 0) = some (.int q) := rfl
  have hd : RF con0 defs (n + 2) "_law_draw" none [.list (zs ns), .int k, .list [.int 4]] = .ok (.list (zs [(q : Int)])) none := hd
  generalize zs [(q : Int)] = dg at hd i0 h
  rw [RF_pl (d := d_l_commands) rfl rfl rfl]
  simp [-forB_def, d_l_commands, b_l_commands, ev_call, hd, -item_list, i0, rr, tn]
  rw [h]
  simp [b_l_commands_4]
theorem r_machine (n : Nat) (ns : List Int) (k : Nat) (hk : k ≤ 800) : ∃ (f m : Int) (L : List Cd), (∀ c ∈ L, c.ok) ∧ L.length ≤ 4 ∧ RF con0 defs (n + 4) "_law_machine" none [.list (zs ns), .int k] = .ok (gdD f L m) none := by
  obtain ⟨ds, hd, dl, dr⟩ := r_draw (n + 1) ns k [5, 4] (by omega) (by simp) (by simp)
  have dl : ds.length = 2 := dl
  obtain ⟨a, b, rfl⟩ : ∃ a b, ds = [a, b] := match ds, dl with | [a, b], _ => ⟨a, b, rfl⟩
  obtain ⟨L, hc, okL, hL⟩ := r_commands n ns (k + 1) (by omega)
  refine ⟨a - 2, b, L, okL, hL, ?_⟩
  have hc : RF con0 defs (n + 3) "_law_commands" none [.list (zs ns), .int ((k : Int) + 1)] = .ok (.list (L.map Cd.enc)) none := hc
  have hd : RF con0 defs (n + 3) "_law_draw" none [.list (zs ns), .int k, .list [.int 5, .int 4]] = .ok (.list (zs [a, b])) none := hd
  have i0 : dItem (.list (zs [a, b])) (.int 0) = some (.int a) := rfl
  have i1 : dItem (.list (zs [a, b])) (.int 1) = some (.int b) := rfl
  generalize zs [a, b] = dg at hd i0 i1
  rw [RF_pl (d := d_l_machine) rfl rfl rfl]
  simp [d_l_machine, b_l_machine, ev_call, hd, -item_list, i0, i1, hc, gdD]

end K55

namespace K55
open PySem PySem.Spec L2 Dv
theorem ask (S : Sto) (f m : Int) (L : List Cd) (okL : ∀ c ∈ L, c.ok) (hz : L.length ≤ 100) (h2 : S[2]? = some (.own (.lst (L.map Cd.enc)))) (h4 : S[4]? = some (.fro (.int f))) (h5 : S[5]? = some (.fro (.int m))) :
    ex (cfg con0 defs 19 false) (.if_ (.cmp .ne (.lend "_law_told" (.var 4) 2 (.var 5)) (.lend "_law_due" (.var 4) 2 (.var 5))) (.cons (.ret (.bl false)) <| .nil) (.nil)) S = .nx S := by
  obtain ⟨n1, n2, n3⟩ := out_flat L okL f m
  have e1 : lendR (cfg con0 defs 19 false) "_law_told" 2 (.int f) (.int m) S = .ok (outD f L m) S := lend_ok (by decide) h2 (r_told55 L okL hz f m) n1
  have e2 : lendR (cfg con0 defs 19 false) "_law_due" 2 (.int f) (.int m) S = .ok (outD f L m) S := lend_ok (by decide) h2 (r_due55 L okL hz f m) n1
  have e3 : dNe (outD f L m) (outD f L m) = some (.bool false) := dNe_self n2 n3
  have e4 : ev (cfg con0 defs 19 false) (.var 4) S = .ok (.int f) S := by simp [evVar, h4]
  have e5 : ev (cfg con0 defs 19 false) (.var 5) S = .ok (.int m) S := by simp [evVar, h5]
  have e6 : isOwnL S 2 = true := by unfold isOwnL; rw [h2]; rfl
  generalize outD f L m = o at e1 e2 e3
  have e7 : ∀ g, ev (cfg con0 defs 19 false) (.lend g (.var 4) 2 (.var 5)) S = lendR (cfg con0 defs 19 false) g 2 (.int f) (.int m) S := fun g => by
    rw [ev_lend (by decide), e4, rb_ok, if_pos e6, e5, rb_ok]
  have e8 : evT (cfg con0 defs 19 false) (.cmp .ne (.lend "_law_told" (.var 4) 2 (.var 5)) (.lend "_law_due" (.var 4) 2 (.var 5))) S = .ok false S := by
    simp [-ev_var, e7, e1, e2, e3]
  rw [ex_if, e8]
  rfl

end K55

namespace K55
open PySem PySem.Spec L2 Dv
abbrev T16 (sc w : Sl) (L : List Cd) (a3 : Sl) (f m : Int) (a6 a7 a8 a9 a10 a11 a12 a13 a14 a15 : Sl) : Sto := [sc, w, .own (.lst (L.map Cd.enc)), a3, .fro (.int f), .fro (.int m), a6, a7, a8, a9, a10, a11, a12, a13, a14, a15]
theorem at_n {α : Type} {xs : List α} {z : Int} {n : Nat} (h : z = n) {x : α} (hx : xs[n]? = some x) : atI xs z = some x := by
  rw [h, atI_natD]
  exact hx
theorem nm_pick {z : Int} (h : 0 ≤ z ∧ z < 5) {n0 : Str} (h0 : n0 ∈ nmL) : ∃ y, dItem (.list [.str "", .str "Put", .str "toolongname", .str "a1", .str n0]) (.int z) = some (.str y) ∧ y ∈ nmL := by
  obtain ⟨k, rfl⟩ : ∃ k : Nat, z = k := ⟨z.toNat, by omega⟩
  match k, h with
  | 0, _ => exact ⟨_, rfl, by simp [nmL]⟩
  | 1, _ => exact ⟨_, rfl, by simp [nmL]⟩
  | 2, _ => exact ⟨_, rfl, by simp [nmL]⟩
  | 3, _ => exact ⟨_, rfl, by simp [nmL]⟩
  | 4, _ => exact ⟨_, rfl, h0⟩
  | n + 5, h => omega
theorem gu_pick {z : Int} (h : 0 ≤ z ∧ z < 5) : ∃ y, dItem (.list [.tuple [.str "rising"], .tuple [.str "is", .str "a"], .tuple [.str "divides", .int 0], .tuple [.str "and", .tuple [.str "atmost", .int 1], .tuple [.str "different"]], .tuple [.str "divides", .int 7]]) (.int z) = some y ∧ y ∈ guL := by
  obtain ⟨k, rfl⟩ : ∃ k : Nat, z = k := ⟨z.toNat, by omega⟩
  match k, h with
  | 0, _ => exact ⟨_, rfl, gb_mem (by simp [badGu])⟩
  | 1, _ => exact ⟨_, rfl, gb_mem (by simp [badGu])⟩
  | 2, _ => exact ⟨_, rfl, gb_mem (by simp [badGu])⟩
  | 3, _ => exact ⟨_, rfl, gb_mem (by simp [badGu])⟩
  | 4, _ => exact ⟨_, rfl, g1_mem (by simp)⟩
  | n + 5, h => omega
theorem ge_pick {z : Int} (h : 0 ≤ z ∧ z < 5) : ∃ y, dItem (.list [.tuple [.str "pick", .tuple [.str "a", .str "b"]], .tuple [.str "int", .int 3, .int 2], .tuple [.str "list", .tuple [.str "int", .int 0, .int 1], .int 0, .int 1], .tuple [.str "kept", .tuple [.str "int", .int 0, .int 2], .tuple [.str "rising"]], .tuple [.str "turned", .tuple [.str "int", .int 0, .int 1], .tuple [.str "length"]]]) (.int z) = some y ∧ y ∈ geL := by
  obtain ⟨k, rfl⟩ : ∃ k : Nat, z = k := ⟨z.toNat, by omega⟩
  match k, h with
  | 0, _ => exact ⟨_, rfl, eb_mem (by simp [badGe])⟩
  | 1, _ => exact ⟨_, rfl, eb_mem (by simp [badGe])⟩
  | 2, _ => exact ⟨_, rfl, eb_mem (by simp [badGe])⟩
  | 3, _ => exact ⟨_, rfl, eb_mem (by simp [badGe])⟩
  | 4, _ => exact ⟨_, rfl, eb_mem (by simp [badGe])⟩
  | n + 5, h => omega
theorem ef_pick {z : Int} (h : 0 ≤ z ∧ z < 4) : ∃ y, dItem (.list [.str "drop", .str "", .str "add", .str "set"]) (.int z) = some (.str y) ∧ y ∈ efL := by
  obtain ⟨k, rfl⟩ : ∃ k : Nat, z = k := ⟨z.toNat, by omega⟩
  match k, h with
  | 0, _ => exact ⟨_, rfl, by simp [efL]⟩
  | 1, _ => exact ⟨_, rfl, by simp [efL]⟩
  | 2, _ => exact ⟨_, rfl, by simp [efL]⟩
  | 3, _ => exact ⟨_, rfl, by simp [efL]⟩
  | n + 4, h => omega
theorem cd_pick {z : Int} (h : 0 ≤ z ∧ z < 6) {c0 c1 c2 c3 c4 c5 : Cd} (h0 : c0.ok) (h1 : c1.ok) (h2 : c2.ok) (h3 : c3.ok) (h4 : c4.ok) (h5 : c5.ok) : ∃ c : Cd, dItem (.list [c0.enc, c1.enc, c2.enc, c3.enc, c4.enc, c5.enc]) (.int z) = some c.enc ∧ c.ok := by
  obtain ⟨k, rfl⟩ : ∃ k : Nat, z = k := ⟨z.toNat, by omega⟩
  match k, h with
  | 0, _ => exact ⟨_, rfl, h0⟩
  | 1, _ => exact ⟨_, rfl, h1⟩
  | 2, _ => exact ⟨_, rfl, h2⟩
  | 3, _ => exact ⟨_, rfl, h3⟩
  | 4, _ => exact ⟨_, rfl, h4⟩
  | 5, _ => exact ⟨_, rfl, h5⟩
  | n + 6, h => omega
theorem set_map {L : List Cd} {k : Nat} {c : Cd} (h : k < L.length) : setAt (L.map Cd.enc) (k : Int) c.enc = some ((L.set k c).map Cd.enc) := by
  unfold setAt ixN
  rw [if_pos (by simp)]
  simp [List.map_set, h]
def chg6 : CSs :=
    .cons (.unpack [11, 12, 13, 14] (.itemO 2 (.var 7))) <|
    .cons (.set 8 (.fr (.lst (.cons (.str "") (.cons (.str "Put") (.cons (.str "toolongname") (.cons (.str "a1") (.cons (.item (.itemO 2 (.int 0)) (.int 0)) (.nil))))))))) <|
    .cons (.set 9 (.fr (.lst (.cons (.tup (.cons (.str "rising") (.nil))) (.cons (.tup (.cons (.str "is") (.cons (.str "a") (.nil)))) (.cons (.tup (.cons (.str "divides") (.cons (.int 0) (.nil)))) (.cons (.tup (.cons (.str "and") (.cons (.tup (.cons (.str "atmost") (.cons (.int 1) (.nil)))) (.cons (.tup (.cons (.str "different") (.nil))) (.nil))))) (.cons (.tup (.cons (.str "divides") (.cons (.int 7) (.nil)))) (.nil))))))))) <|
    .cons (.set 10 (.fr (.lst (.cons (.tup (.cons (.str "pick") (.cons (.tup (.cons (.str "a") (.cons (.str "b") (.nil)))) (.nil)))) (.cons (.tup (.cons (.str "int") (.cons (.int 3) (.cons (.int 2) (.nil))))) (.cons (.tup (.cons (.str "list") (.cons (.tup (.cons (.str "int") (.cons (.int 0) (.cons (.int 1) (.nil))))) (.cons (.int 0) (.cons (.int 1) (.nil)))))) (.cons (.tup (.cons (.str "kept") (.cons (.tup (.cons (.str "int") (.cons (.int 0) (.cons (.int 2) (.nil))))) (.cons (.tup (.cons (.str "rising") (.nil))) (.nil))))) (.cons (.tup (.cons (.str "turned") (.cons (.tup (.cons (.str "int") (.cons (.int 0) (.cons (.int 1) (.nil))))) (.cons (.tup (.cons (.str "length") (.nil))) (.nil))))) (.nil))))))))) <|
    .cons (.setI 2 (.var 7) (.item (.fr (.lst (.cons (.tup (.cons (.item (.var 8) (.item (.var 6) (.int 2))) (.cons (.var 12) (.cons (.var 13) (.cons (.var 14) (.nil)))))) (.cons (.tup (.cons (.var 11) (.cons (.item (.var 9) (.item (.var 6) (.int 2))) (.cons (.var 13) (.cons (.var 14) (.nil)))))) (.cons (.tup (.cons (.var 11) (.cons (.var 12) (.cons (.item (.var 10) (.item (.var 6) (.int 2))) (.cons (.var 14) (.nil)))))) (.cons (.tup (.cons (.var 11) (.cons (.var 12) (.cons (.var 13) (.cons (.item (.fr (.lst (.cons (.str "drop") (.cons (.str "") (.cons (.str "add") (.cons (.str "set") (.nil))))))) (.item (.var 6) (.int 3))) (.nil)))))) (.cons (.tup (.cons (.item (.var 8) (.item (.var 6) (.int 3))) (.cons (.item (.var 9) (.item (.var 6) (.int 2))) (.cons (.item (.var 10) (.item (.var 6) (.int 3))) (.cons (.str "x") (.nil)))))) (.cons (.tup (.cons (.var 11) (.cons (.tup (.cons (.str "not") (.cons (.tup (.cons (.str "atmost") (.cons (.item (.var 6) (.int 2)) (.nil)))) (.nil)))) (.cons (.var 13) (.cons (.var 14) (.nil)))))) (.nil))))))))) (.item (.var 6) (.int 0)))) <| .nil
theorem do6 (L : List Cd) (okL : ∀ c ∈ L, c.ok) (k : Nat) (hk : k < L.length) (a b c d f m : Int) (ra : 0 ≤ a ∧ a < 6) (rc : 0 ≤ c ∧ c < 5) (rd : 0 ≤ d ∧ d < 4) (sc w a3 a8 a9 a10 a11 a12 a13 a14 a15 : Sl) :
    ∃ (L' : List Cd) (b8 b9 b10 b11 b12 b13 b14 : Sl), (∀ c ∈ L', c.ok) ∧ L'.length = L.length ∧ exs (cfg con0 defs 19 false) chg6 (T16 sc w L a3 f m (.fro (.list (zs [a, b, c, d]))) (.fro (.int k)) a8 a9 a10 a11 a12 a13 a14 a15) = .nx (T16 sc w L' a3 f m (.fro (.list (zs [a, b, c, d]))) (.fro (.int k)) b8 b9 b10 b11 b12 b13 b14 a15) := by
  have hx : L[k]? = some L[k] := List.getElem?_eq_getElem hk
  have hy : L[0]? = some (L[0]'(by omega)) := List.getElem?_eq_getElem (by omega)
  have okx := okL _ (List.mem_of_getElem? hx)
  have oky := okL _ (List.mem_of_getElem? hy)
  have ix : dItem (.list (L.map Cd.enc)) (.int (k : Int)) = some (.tuple [.str L[k].nm, L[k].gu, L[k].ge, .str L[k].ef]) := by simp [atI_natD, hx, Cd.enc]
  have iy : dItem (.list (L.map Cd.enc)) (.int 0) = some (.tuple [.str (L[0]'(by omega)).nm, (L[0]'(by omega)).gu, (L[0]'(by omega)).ge, .str (L[0]'(by omega)).ef]) := by
    have : atI (L.map Cd.enc) 0 = (L.map Cd.enc)[0]? := Dv.atI_natD (k := 0)
    simp [this, hy, Cd.enc]
  have st : ∀ c, setAt (L.map Cd.enc) (k : Int) c.enc = some ((L.set k c).map Cd.enc) := fun c => set_map hk
  generalize hX : L[k] = x at ix okx
  generalize hY : L[0]'(by omega) = y at iy oky
  obtain ⟨n1, m1, p1⟩ := nm_pick rc oky.nm
  obtain ⟨n2, m2, p2⟩ := nm_pick (z := d) (by omega) oky.nm
  obtain ⟨n3, m3, p3⟩ := gu_pick rc
  obtain ⟨n4, m4, p4⟩ := ge_pick rc
  obtain ⟨n5, m5, p5⟩ := ge_pick (z := d) (by omega)
  obtain ⟨n6, m6, p6⟩ := ef_pick rd
  have p7 := na_mem rc
  obtain ⟨e, me, pe⟩ := cd_pick ra (c0 := ⟨n1, x.gu, x.ge, x.ef⟩) (c1 := ⟨x.nm, n3, x.ge, x.ef⟩) (c2 := ⟨x.nm, x.gu, n4, x.ef⟩) (c3 := ⟨x.nm, x.gu, x.ge, n6⟩) (c4 := ⟨n2, n3, n5, "x"⟩) (c5 := ⟨x.nm, .tuple [.str "not", .tuple [.str "atmost", .int c]], x.ge, x.ef⟩)
    ⟨p1, okx.gu, okx.ge, okx.ef⟩ ⟨okx.nm, p3, okx.ge, okx.ef⟩ ⟨okx.nm, okx.gu, p4, okx.ef⟩ ⟨okx.nm, okx.gu, okx.ge, p6⟩ ⟨p2, p3, p5, by simp [efL]⟩ ⟨okx.nm, p7, okx.ge, okx.ef⟩
  have st := st e
  have i0 : dItem (.list (zs [a, b, c, d])) (.int 0) = some (.int a) := rfl
  have i2 : dItem (.list (zs [a, b, c, d])) (.int 2) = some (.int c) := rfl
  have i3 : dItem (.list (zs [a, b, c, d])) (.int 3) = some (.int d) := rfl
  have me : dItem (.list [.tuple [.str n1, x.gu, x.ge, .str x.ef], .tuple [.str x.nm, n3, x.ge, .str x.ef], .tuple [.str x.nm, x.gu, n4, .str x.ef], .tuple [.str x.nm, x.gu, x.ge, .str n6], .tuple [.str n2, n3, n5, .str "x"], .tuple [.str x.nm, .tuple [.str "not", .tuple [.str "atmost", .int c]], x.ge, .str x.ef]]) (.int a) = some e.enc := me
  refine ⟨L.set k e, .fro (.list [.str "", .str "Put", .str "toolongname", .str "a1", .str y.nm]), .fro (.list [.tuple [.str "rising"], .tuple [.str "is", .str "a"], .tuple [.str "divides", .int 0], .tuple [.str "and", .tuple [.str "atmost", .int 1], .tuple [.str "different"]], .tuple [.str "divides", .int 7]]), .fro (.list [.tuple [.str "pick", .tuple [.str "a", .str "b"]], .tuple [.str "int", .int 3, .int 2], .tuple [.str "list", .tuple [.str "int", .int 0, .int 1], .int 0, .int 1], .tuple [.str "kept", .tuple [.str "int", .int 0, .int 2], .tuple [.str "rising"]], .tuple [.str "turned", .tuple [.str "int", .int 0, .int 1], .tuple [.str "length"]]]), .fro (.str x.nm), .fro x.gu, .fro x.ge, .fro (.str x.ef), fun z hz => ?_, by simp, ?_⟩
  · rcases List.mem_or_eq_of_mem_set hz with h | h
    · exact okL z h
    · rw [h]; exact pe
  · generalize zs [a, b, c, d] = dg at i0 i2 i3
    have y0 : dItem (.tuple [.str y.nm, y.gu, y.ge, .str y.ef]) (.int 0) = some (.str y.nm) := rfl
    generalize PyData.tuple [.str y.nm, y.gu, y.ge, .str y.ef] = yy at iy y0
    unfold T16
    generalize hl : L.map Cd.enc = ls at ix iy st ⊢
    simp [chg6, bindG_t4, -item_list, ix, iy, y0, i0, i2, i3, m1, m2, m3, m4, m5, m6, me, st]

end K55

namespace K55
open PySem PySem.Spec L2 Dv
def wCd : Nat → Cd
  | 0 => ⟨"wa", .tuple [.str "atmost", .int 1], .tuple [.str "int", .int 0, .int 1], "set"⟩
  | 1 => ⟨"wb", .tuple [.str "atmost", .int 1], .tuple [.str "int", .int 0, .int 1], "set"⟩
  | _ => ⟨"wc", .tuple [.str "atmost", .int 1], .tuple [.str "int", .int 0, .int 1], "set"⟩
theorem wCd_ok (i : Nat) : (wCd i).ok := by
  match i with
  | 0 => exact ⟨by simp [nmL, wCd], g1_mem (by simp [wCd]), g0_mem, by simp [efL, wCd]⟩
  | 1 => exact ⟨by simp [nmL, wCd], g1_mem (by simp [wCd]), g0_mem, by simp [efL, wCd]⟩
  | n + 2 => exact ⟨by simp [nmL, wCd], g1_mem (by simp [wCd]), g0_mem, by simp [efL, wCd]⟩
theorem w_name (i : Nat) (hi : i < 3) : ∃ s, dItem (.str "abcd") (.int (i : Int)) = some s ∧ dAddL (.str "w") s = some (.str (wCd i).nm) := by
  match i, hi with
  | 0, _ => exact ⟨_, rfl, by rfl⟩
  | 1, _ => exact ⟨_, rfl, by rfl⟩
  | 2, _ => exact ⟨_, rfl, by rfl⟩
def wLc : CF := .lc [("_law_i", 15)] (.name 15) (.rng1 (.item (.var 6) (.int 3))) .none (.tup (.cons (.bin .add (.str "w") (.item (.str "abcd") (.var 15))) (.cons (.tup (.cons (.str "atmost") (.cons (.int 1) (.nil)))) (.cons (.tup (.cons (.str "int") (.cons (.int 0) (.cons (.int 1) (.nil))))) (.cons (.str "set") (.nil))))))
theorem w_lc (S : Sto) (h15 : S[15]? = some .no) (dg : D) (h6 : S[6]? = some (.fro dg)) (d : Nat) (hd : d < 4) (i3 : dItem dg (.int 3) = some (.int d)) (hl : S.length = 16) :
    evF (cfg con0 defs 19 false) wLc S = .ok (.lst (((List.range d).map wCd).map Cd.enc)) S := by
  obtain ⟨s0, s1, s2, s3, s4, s5, s6, s7, s8, s9, s10, s11, s12, s13, s14, s15, rfl⟩ : ∃ s0 s1 s2 s3 s4 s5 s6 s7 s8 s9 s10 s11 s12 s13 s14 s15, S = [s0, s1, s2, s3, s4, s5, s6, s7, s8, s9, s10, s11, s12, s13, s14, s15] := by
    match S, hl with
    | [s0, s1, s2, s3, s4, s5, s6, s7, s8, s9, s10, s11, s12, s13, s14, s15], _ => exact ⟨s0, s1, s2, s3, s4, s5, s6, s7, s8, s9, s10, s11, s12, s13, s14, s15, rfl⟩
  obtain rfl : s15 = .no := by simpa using h15
  obtain rfl : s6 = .fro dg := by simpa using h6
  have rr : range62 (d : Int) = true := r62 (by omega) (by omega)
  have e := evF_lc (c := cfg con0 defs 19 false) (own := [("_law_i", 15)]) (t := .name 15) (it := .rng1 (.item (.var 6) (.int 3))) (cc := .none) (elt := .tup (.cons (.bin .add (.str "w") (.item (.str "abcd") (.var 15))) (.cons (.tup (.cons (.str "atmost") (.cons (.int 1) (.nil)))) (.cons (.tup (.cons (.str "int") (.cons (.int 0) (.cons (.int 1) (.nil))))) (.cons (.str "set") (.nil))))))
    (S := [s0, s1, s2, s3, s4, s5, .fro dg, s7, s8, s9, s10, s11, s12, s13, s14, .no]) (S1 := [s0, s1, s2, s3, s4, s5, .fro dg, s7, s8, s9, s10, s11, s12, s13, s14, .no])
    (fun (i : Nat) => PyData.int (i : Int)) (fun _ => true) (fun i => (wCd i).enc) (List.range d) (by rw [← rng_map]; simp [-item_list, i3, rr]) (by simp) rfl (small (by simp; omega)) (fun i hi => ⟨[s0, s1, s2, s3, s4, s5, .fro dg, s7, s8, s9, s10, s11, s12, s13, s14, .fro (.int i)], by simp, by simp, by
      have hi : i < d := List.mem_range.mp hi
      obtain ⟨s, e1, e2⟩ := w_name i (by omega)
      have e3 : (wCd i).enc = .tuple [.str (wCd i).nm, .tuple [.str "atmost", .int 1], .tuple [.str "int", .int 0, .int 1], .str "set"] := by
        match i with
        | 0 => rfl
        | 1 => rfl
        | n + 2 => rfl
      rw [e3]
      generalize (wCd i).nm = z at e2
      simp [e1, e2], by simp⟩)
  unfold wLc
  rw [e]
  simp


def s6 : CS := .set 6 (.call "_law_draw" (.cons (.var 0) (.cons (.bin .add (.bin .add (.bin .mul (.int 6) (.var 1)) (.int 4)) (.var 3)) (.cons (.fr (.lst (.cons (.int 10) (.cons (.int 4) (.cons (.int 5) (.cons (.int 4) (.nil))))))) (.nil)))))
def s7 : CS := .set 7 (.bin .mod (.item (.var 6) (.int 1)) (.bf .max2 (.cons (.int 1) (.cons (.lenO 2) (.nil)))))
def tst : CT := .and_ (.cmp .gt (.lenO 2) (.int 0)) (.cmp .lt (.item (.var 6) (.int 0)) (.int 6))
def elif8 : CSs :=
    .cons (.if_ (.cmp .eq (.item (.var 6) (.int 0)) (.int 6)) (
      .cons (.set 4 (.item (.fr (.lst (.cons (.neg (.int 1001)) (.cons (.neg (.int 1000)) (.cons (.int 1000) (.cons (.int 1001) (.nil))))))) (.item (.var 6) (.int 3)))) <| .nil) (
      .cons (.if_ (.cmp .eq (.item (.var 6) (.int 0)) (.int 7)) (
        .cons (.set 5 (.item (.fr (.lst (.cons (.neg (.int 1)) (.cons (.int 0) (.cons (.int 6) (.cons (.int 7) (.nil))))))) (.item (.var 6) (.int 3)))) <| .nil) (
        .cons (.if_ (.cmp .eq (.item (.var 6) (.int 0)) (.int 8)) (
          .cons (.own 2 (.cat (.var 2) (.fr wLc))) <| .nil) (
          .cons (.own 2 (.lst (.nil))) <| .nil)) <| .nil)) <| .nil)) <| .nil
theorem f_pick {d : Int} (h : 0 ≤ d ∧ d < 4) : ∃ y, dItem (.list [.int (-1001), .int (-1000), .int 1000, .int 1001]) (.int d) = some (.int y) := by
  obtain ⟨k, rfl⟩ : ∃ k : Nat, d = k := ⟨d.toNat, by omega⟩
  match k, h with
  | 0, _ => exact ⟨_, rfl⟩
  | 1, _ => exact ⟨_, rfl⟩
  | 2, _ => exact ⟨_, rfl⟩
  | 3, _ => exact ⟨_, rfl⟩
  | n + 4, h => omega
theorem m_pick {d : Int} (h : 0 ≤ d ∧ d < 4) : ∃ y, dItem (.list [.int (-1), .int 0, .int 6, .int 7]) (.int d) = some (.int y) := by
  obtain ⟨k, rfl⟩ : ∃ k : Nat, d = k := ⟨d.toNat, by omega⟩
  match k, h with
  | 0, _ => exact ⟨_, rfl⟩
  | 1, _ => exact ⟨_, rfl⟩
  | 2, _ => exact ⟨_, rfl⟩
  | 3, _ => exact ⟨_, rfl⟩
  | n + 4, h => omega
theorem turn55 (ns : List Int) (w j : Nat) (hw : w < 6) (hj : j < 2) (L : List Cd) (okL : ∀ c ∈ L, c.ok) (hz : L.length ≤ 50) (f m : Int) (a3 a6 a7 a8 a9 a10 a11 a12 a13 a14 : Sl) :
    ∃ (L' : List Cd) (f' m' : Int) (b3 b6 b7 b8 b9 b10 b11 b12 b13 b14 : Sl), (∀ c ∈ L', c.ok) ∧ L'.length ≤ L.length + 3 ∧
      forB (cfg con0 defs 19 false) (.name 3) b_law_2 (.int j) (T16 (.fro (.list (zs ns))) (.fro (.int w)) L a3 f m a6 a7 a8 a9 a10 a11 a12 a13 a14 .no) = .nx (T16 (.fro (.list (zs ns))) (.fro (.int w)) L' b3 f' m' b6 b7 b8 b9 b10 b11 b12 b13 b14 .no) := by
  obtain ⟨ds, hd, dl, dr⟩ := r_draw 17 ns (6 * w + 4 + j) [10, 4, 5, 4] (by omega) (by simp) (by simp)
  have dl : ds.length = 4 := dl
  obtain ⟨a, b, c, d, rfl⟩ : ∃ a b c d, ds = [a, b, c, d] := match ds, dl with | [a, b, c, d], _ => ⟨a, b, c, d, rfl⟩
  have ra := dr 0 (by simp) (by simp)
  have rb := dr 1 (by simp) (by simp)
  have rc := dr 2 (by simp) (by simp)
  have rd := dr 3 (by simp) (by simp)
  simp at ra rb rc rd
  have e1 : (6 * (w : Int)) + 4 + (j : Int) = ((6 * w + 4 + j : Nat) : Int) := by omega
  have hd' : RF con0 defs 19 "_law_draw" none [.list (zs ns), .int (6 * (w : Int) + 4 + (j : Int)), .list [.int 10, .int 4, .int 5, .int 4]] = .ok (.list (zs [a, b, c, d])) none := by rw [e1]; exact hd
  have m6 : dMul (.int 6) (.int (w : Int)) = some (.int (6 * (w : Int))) := mul_intD (.inl (by decide))
  have ln : dLen (.list (L.map Cd.enc)) = some (.int L.length) := by simp
  have mx : dMax (.int 1) (.int (L.length : Int)) = some (.int (max 1 L.length : Nat)) := by
    unfold dMax
    simp only
    congr 2
    split <;> omega
  obtain ⟨k, hk⟩ : ∃ k : Nat, b.fmod (max 1 L.length : Nat) = k := ⟨(b.fmod (max 1 L.length : Nat)).toNat, by have := fmod_rng (a := b) (b := ((max 1 L.length : Nat) : Int)) (by omega); omega⟩
  have hk2 : k < max 1 L.length := by have := fmod_rng (a := b) (b := ((max 1 L.length : Nat) : Int)) (by omega); omega
  have md : dMod (.int b) (.int (max 1 L.length : Nat)) = some (.int k) := by
    rw [show dMod (.int b) (.int (max 1 L.length : Nat)) = some (.int (b.fmod (max 1 L.length : Nat))) from by rw [mod_int, if_pos (by omega)], hk]
  have i0 : dItem (.list (zs [a, b, c, d])) (.int 0) = some (.int a) := rfl
  have i1 : dItem (.list (zs [a, b, c, d])) (.int 1) = some (.int b) := rfl
  have i3 : dItem (.list (zs [a, b, c, d])) (.int 3) = some (.int d) := rfl
  have e2 : b_law_2 = .cons s6 (.cons s7 (.cons (.if_ tst chg6 elif8) b_law_1)) := rfl
  have n15 : ∀ (L : List Cd) (q3 q7 q8 q9 q10 q11 q12 q13 q14 : Sl) (f m : Int), evF (cfg con0 defs 19 false) wLc (((T16 (.fro (.list (zs ns))) (.fro (.int w)) L q3 f m (.fro (.list (zs [a, b, c, d]))) q7 q8 q9 q10 q11 q12 q13 q14 .no)).set 2 (.fro (.list (L.map Cd.enc)))) = .ok (.lst (((List.range d.toNat).map wCd).map Cd.enc)) (((T16 (.fro (.list (zs ns))) (.fro (.int w)) L q3 f m (.fro (.list (zs [a, b, c, d]))) q7 q8 q9 q10 q11 q12 q13 q14 .no)).set 2 (.fro (.list (L.map Cd.enc)))) := fun L q3 q7 q8 q9 q10 q11 q12 q13 q14 f m =>
    w_lc _ rfl _ rfl d.toNat (by omega) (by rw [i3, show ((d.toNat : Nat) : Int) = d by omega]) rfl
  have x1 : ∀ q3, ex (cfg con0 defs 19 false) s6 (T16 (.fro (.list (zs ns))) (.fro (.int w)) L (.fro (.int j)) f m a6 a7 a8 a9 a10 a11 a12 a13 a14 q3) = .nx (T16 (.fro (.list (zs ns))) (.fro (.int w)) L (.fro (.int j)) f m (.fro (.list (zs [a, b, c, d]))) a7 a8 a9 a10 a11 a12 a13 a14 q3) := fun q3 => by
    generalize zs [a, b, c, d] = dg at hd'
    unfold T16
    generalize L.map Cd.enc = ls
    simp [s6, ev_call, m6, hd']
  have x2 : ∀ q3, ex (cfg con0 defs 19 false) s7 (T16 (.fro (.list (zs ns))) (.fro (.int w)) L (.fro (.int j)) f m (.fro (.list (zs [a, b, c, d]))) a7 a8 a9 a10 a11 a12 a13 a14 q3) = .nx (T16 (.fro (.list (zs ns))) (.fro (.int w)) L (.fro (.int j)) f m (.fro (.list (zs [a, b, c, d]))) (.fro (.int k)) a8 a9 a10 a11 a12 a13 a14 q3) := fun q3 => by
    generalize zs [a, b, c, d] = dg at i1
    generalize ((max 1 L.length : Nat) : Int) = mm at mx md
    unfold T16
    generalize L.map Cd.enc = ls at ln
    simp [s7, -item_list, i1, ln, mx, md, -mod_int]
  have key : ∃ (L' : List Cd) (f' m' : Int) (b8 b9 b10 b11 b12 b13 b14 : Sl), (∀ c ∈ L', c.ok) ∧ L'.length ≤ L.length + 3 ∧ ex (cfg con0 defs 19 false) (.if_ tst chg6 elif8) (T16 (.fro (.list (zs ns))) (.fro (.int w)) L (.fro (.int j)) f m (.fro (.list (zs [a, b, c, d]))) (.fro (.int k)) a8 a9 a10 a11 a12 a13 a14 .no) = .nx (T16 (.fro (.list (zs ns))) (.fro (.int w)) L' (.fro (.int j)) f' m' (.fro (.list (zs [a, b, c, d]))) (.fro (.int k)) b8 b9 b10 b11 b12 b13 b14 .no) := by
    have ht : ∀ S : Sto, S[2]? = some (.own (.lst (L.map Cd.enc))) → S[6]? = some (.fro (.list (zs [a, b, c, d]))) → evT (cfg con0 defs 19 false) tst S = .ok (decide (0 < L.length) && decide (a < 6)) S := fun S h2 h6 => by
      have e6 : ev (cfg con0 defs 19 false) (.var 6) S = .ok (.list (zs [a, b, c, d])) S := by simp [evVar, h6]
      have e7 : ev (cfg con0 defs 19 false) (.lenO 2) S = .ok (.int L.length) S := by
        have pk : peek S 2 = some (.list (L.map Cd.enc)) := peek_own h2 rfl
        rw [ev_lenO, pk]
        simp
      generalize zs [a, b, c, d] = dg at i0 e6
      unfold tst
      by_cases h : 0 < L.length
      · have h' : (0 : Int) < (L.length : Int) := by omega
        simp [-ev_var, -ev_lenO, e6, e7, h, h', -item_list, i0]
      · have h' : ¬ (0 : Int) < (L.length : Int) := by omega
        simp [-ev_var, -ev_lenO, e6, e7, h, h', -item_list, i0]
    rw [ex_if, ht _ rfl rfl]
    by_cases h6 : 0 < L.length ∧ a < 6
    · obtain ⟨L', b8, b9, b10, b11, b12, b13, b14, okL', hl, hx⟩ := do6 L okL k (by omega) a b c d f m ⟨by omega, h6.2⟩ rc rd (.fro (.list (zs ns))) (.fro (.int w)) (.fro (.int j)) a8 a9 a10 a11 a12 a13 a14 .no
      refine ⟨L', f, m, b8, b9, b10, b11, b12, b13, b14, okL', by omega, ?_⟩
      have : (decide (0 < L.length) && decide (a < 6)) = true := by simp [h6.1, h6.2]
      rw [this]
      exact hx
    · have : (decide (0 < L.length) && decide (a < 6)) = false := by
        by_cases h : 0 < L.length
        · have : ¬ a < 6 := fun z => h6 ⟨h, z⟩
          simp [h, this]
        · simp [h]
      rw [this]
      by_cases z6 : a = 6
      · obtain ⟨f', hf⟩ := f_pick rd
        refine ⟨L, f', m, a8, a9, a10, a11, a12, a13, a14, okL, by omega, ?_⟩
        generalize zs [a, b, c, d] = dg at i0 i3
        unfold T16
        generalize L.map Cd.enc = ls
        show exs (cfg con0 defs 19 false) elif8 _ = _
        simp [elif8, -item_list, i0, i3, z6, hf]
      · by_cases z7 : a = 7
        · obtain ⟨m', hf⟩ := m_pick rd
          refine ⟨L, f, m', a8, a9, a10, a11, a12, a13, a14, okL, by omega, ?_⟩
          generalize zs [a, b, c, d] = dg at i0 i3
          unfold T16
          generalize L.map Cd.enc = ls
          show exs (cfg con0 defs 19 false) elif8 _ = _
          simp [elif8, -item_list, i0, i3, z7, hf]
        · by_cases z8 : a = 8
          · refine ⟨L ++ (List.range d.toNat).map wCd, f, m, a8, a9, a10, a11, a12, a13, a14, fun x hx => ?_, by simp; omega, ?_⟩
            · rcases List.mem_append.mp hx with h | h
              · exact okL x h
              · obtain ⟨i, _, rfl⟩ := List.mem_map.mp h
                exact wCd_ok i
            · have nn := n15 L (.fro (.int j)) (.fro (.int k)) a8 a9 a10 a11 a12 a13 a14 f m
              have sz : (L.map Cd.enc).length + (((List.range d.toNat).map wCd).map Cd.enc).length ≤ sizeLine := small (by simp; omega)
              have ap : (L ++ (List.range d.toNat).map wCd).map Cd.enc = L.map Cd.enc ++ ((List.range d.toNat).map wCd).map Cd.enc := List.map_append ..
              unfold T16 at nn ⊢
              simp only [List.set_cons_succ, List.set_cons_zero] at nn
              rw [ap]
              generalize zs [a, b, c, d] = dg at i0 i3 nn
              generalize ((List.range d.toNat).map wCd).map Cd.enc = l2 at sz nn
              generalize L.map Cd.enc = ls at sz nn
              show exs (cfg con0 defs 19 false) elif8 _ = _
              simp [elif8, -item_list, i0, z8, nn, sz]
          · refine ⟨[], f, m, a8, a9, a10, a11, a12, a13, a14, by simp, by simp, ?_⟩
            generalize zs [a, b, c, d] = dg at i0 i3
            unfold T16
            generalize L.map Cd.enc = ls
            show exs (cfg con0 defs 19 false) elif8 _ = _
            simp [elif8, -item_list, i0, z6, z7, z8]
  obtain ⟨L', f', m', b8, b9, b10, b11, b12, b13, b14, okL', hl, hx⟩ := key
  refine ⟨L', f', m', .fro (.int j), .fro (.list (zs [a, b, c, d])), .fro (.int k), b8, b9, b10, b11, b12, b13, b14, okL', hl, ?_⟩
  rw [forB_def, bindG_name]
  show exs (cfg con0 defs 19 false) b_law_2 (T16 (.fro (.list (zs ns))) (.fro (.int w)) L (.fro (.int j)) f m a6 a7 a8 a9 a10 a11 a12 a13 a14 .no) = _
  rw [e2, exs_cons, x1, ft_nx, exs_cons, x2, ft_nx, exs_cons, hx, ft_nx, b_law_1, exs_cons, ask _ f' m' L' okL' (by omega) rfl rfl rfl, ft_nx]
  rfl

end K55

namespace K55
open PySem PySem.Spec L2 Dv
theorem r_law_turn (ns : List Int) (w : Nat) (hw : w < 6) (a1 a2 a3 a4 a5 a6 a7 a8 a9 a10 a11 a12 a13 a14 : Sl) :
    ∃ (L : List Cd) (f m : Int) (b3 b6 b7 b8 b9 b10 b11 b12 b13 b14 : Sl), forB (cfg con0 defs 19 false) (.name 1) b_law_4 (.int w) [.fro (.list (zs ns)), a1, a2, a3, a4, a5, a6, a7, a8, a9, a10, a11, a12, a13, a14, .no] = .nx (T16 (.fro (.list (zs ns))) (.fro (.int w)) L b3 f m b6 b7 b8 b9 b10 b11 b12 b13 b14 .no) := by
  obtain ⟨f, m, L, okL, hL, hm⟩ := r_machine 15 ns (6 * w) (by omega)
  have m6 : dMul (.int 6) (.int (w : Int)) = some (.int ((6 * w : Nat) : Int)) := by
    rw [show ((6 * w : Nat) : Int) = 6 * (w : Int) by omega]
    exact mul_intD (.inl (by decide))
  obtain ⟨L1, f1, m1, c3, c6, c7, c8, c9, c10, c11, c12, c13, c14, ok1, hl1, t1⟩ := turn55 ns w 0 hw (by decide) L okL (by omega) f m a3 a6 a7 a8 a9 a10 a11 a12 a13 a14
  obtain ⟨L2, f2, m2, d3, d6, d7, d8, d9, d10, d11, d12, d13, d14, ok2, hl2, t2⟩ := turn55 ns w 1 hw (by decide) L1 ok1 (by omega) f1 m1 c3 c6 c7 c8 c9 c10 c11 c12 c13 c14
  refine ⟨L2, f2, m2, d3, d6, d7, d8, d9, d10, d11, d12, d13, d14, ?_⟩
  rw [forB_def, bindG_name]
  show exs (cfg con0 defs 19 false) b_law_4 [.fro (.list (zs ns)), .fro (.int w), a2, a3, a4, a5, a6, a7, a8, a9, a10, a11, a12, a13, a14, .no] = _
  have y1 : ex (cfg con0 defs 19 false) (.unpack [4, 2, 5] (.call "_law_machine" (.cons (.var 0) (.cons (.bin .mul (.int 6) (.var 1)) (.nil))))) [.fro (.list (zs ns)), .fro (.int w), a2, a3, a4, a5, a6, a7, a8, a9, a10, a11, a12, a13, a14, .no] = .nx [.fro (.list (zs ns)), .fro (.int w), .fro (.tuple (L.map Cd.enc)), a3, .fro (.int f), .fro (.int m), a6, a7, a8, a9, a10, a11, a12, a13, a14, .no] := by
    have hm' : RF con0 defs 19 "_law_machine" none [.list (zs ns), .int ((6 * w : Nat) : Int)] = .ok (gdD f L m) none := hm
    generalize ((6 * w : Nat) : Int) = ii at m6 hm'
    unfold gdD at hm'
    simp [ev_call, m6, hm']
  have y2 : ex (cfg con0 defs 19 false) (.own 2 (.listO 2)) [.fro (.list (zs ns)), .fro (.int w), .fro (.tuple (L.map Cd.enc)), a3, .fro (.int f), .fro (.int m), a6, a7, a8, a9, a10, a11, a12, a13, a14, .no] = .nx (T16 (.fro (.list (zs ns))) (.fro (.int w)) L a3 f m a6 a7 a8 a9 a10 a11 a12 a13 a14 .no) := by
    unfold T16
    generalize L.map Cd.enc = ls
    simp
  have i2 : evI (cfg con0 defs 19 false) (.rng1 (.int 2)) (T16 (.fro (.list (zs ns))) (.fro (.int w)) L a3 f m a6 a7 a8 a9 a10 a11 a12 a13 a14 .no) = .ok [.int ((0 : Nat) : Int), .int ((1 : Nat) : Int)] (T16 (.fro (.list (zs ns))) (.fro (.int w)) L a3 f m a6 a7 a8 a9 a10 a11 a12 a13 a14 .no) := by
    have rr : range62 (2 : Int) = true := by decide
    simp [rr, rng]
    rfl
  rw [b_law_4, exs_cons, y1, ft_nx, exs_cons, y2, ft_nx, exs_cons, ask _ f m L okL (by omega) rfl rfl rfl, ft_nx, b_law_3, exs_cons, ex_for, i2, rf_ok]
  have t1' : forL (fun d S => forB (cfg con0 defs 19 false) (.name 3) b_law_2 d S) [.int ((0 : Nat) : Int), .int ((1 : Nat) : Int)] (T16 (.fro (.list (zs ns))) (.fro (.int w)) L a3 f m a6 a7 a8 a9 a10 a11 a12 a13 a14 .no) = .nx (T16 (.fro (.list (zs ns))) (.fro (.int w)) L2 d3 f2 m2 d6 d7 d8 d9 d10 d11 d12 d13 d14 .no) := by
    rw [forL_nxc t1, forL_nxc t2]
    rfl
  rw [t1']
  rfl
theorem holds : ∀ ns : List Int, ns.length ≤ 63 → runBody { run := runs (fun y => conL.lookup y) (tab.map (·.1)) 19, con := fun y => conL.lookup y, io := false } d_law none [.list (ns.map .int)] = .ok (.bool true) none := by
  intro ns hlen
  have e : tab.map (·.1) = defs := rfl
  rw [e]
  have key : RF con0 defs 20 "law" none [.list (zs ns)] = .ok (.bool true) none := by
    rw [RF_pl (d := d_law) rfl rfl rfl]
    obtain ⟨S', h, a1, a2, a3, a4, a5, a6, a7, a8, a9, a10, a11, a12, a13, a14, rfl⟩ := forL_inv (body := forB (cfg con0 defs 19 false) (.name 1) b_law_4) (fun _ S => ∃ a1 a2 a3 a4 a5 a6 a7 a8 a9 a10 a11 a12 a13 a14, S = [.fro (.list (zs ns)), a1, a2, a3, a4, a5, a6, a7, a8, a9, a10, a11, a12, a13, a14, .no]) (rng 0 (min 6 (1 + ns.length / 6))) [.fro (.list (zs ns)), .no, .no, .no, .no, .no, .no, .no, .no, .no, .no, .no, .no, .no, .no, .no] 0 ⟨_, _, _, _, _, _, _, _, _, _, _, _, _, _, rfl⟩ (by
      rintro i hi S ⟨a1, a2, a3, a4, a5, a6, a7, a8, a9, a10, a11, a12, a13, a14, rfl⟩
      have hi : i < min 6 (1 + ns.length / 6) := by simpa using hi
      rw [rng_elem, Int.zero_add]
      obtain ⟨L, f, m, b3, b6, b7, b8, b9, b10, b11, b12, b13, b14, h⟩ := r_law_turn ns i (by omega) a1 a2 a3 a4 a5 a6 a7 a8 a9 a10 a11 a12 a13 a14
      exact ⟨_, .inl h, _, _, _, _, _, _, _, _, _, _, _, _, _, _, rfl⟩)
    have dv : dDiv (.int (ns.length : Int)) (.int 6) = some (.int (ns.length / 6 : Nat)) := by
      rw [show dDiv (.int (ns.length : Int)) (.int 6) = some (.int ((ns.length : Int).fdiv 6)) from div_int ⟨by decide, by decide⟩]
      congr 2
      rw [Int.fdiv_eq_ediv_of_nonneg _ (by decide)]
      omega
    have ad : (1 : Int) + (ns.length / 6 : Nat) = ((1 + ns.length / 6 : Nat) : Int) := by omega
    have hm : dMin (.int 6) (.int (1 + ns.length / 6 : Nat)) = some (.int (min 6 (1 + ns.length / 6) : Nat)) := by
      unfold dMin
      simp only
      congr 2
      split <;> omega
    have rr : range62 ((min 6 (1 + ns.length / 6) : Nat) : Int) = true := r62 (by omega) (by omega)
    have i1 : evI (cfg con0 defs 19 false) (.rng1 (.bf .min2 (.cons (.int 6) (.cons (.bin .add (.int 1) (.bin .div (.bf .len (.cons (.var 0) (.nil))) (.int 6))) (.nil))))) [.fro (.list (zs ns)), .no, .no, .no, .no, .no, .no, .no, .no, .no, .no, .no, .no, .no, .no, .no] = .ok (rng 0 (min 6 (1 + ns.length / 6))) [.fro (.list (zs ns)), .no, .no, .no, .no, .no, .no, .no, .no, .no, .no, .no, .no, .no, .no, .no] := by
      generalize hq : min 6 (1 + ns.length / 6) = q at hm rr
      have ad' : dAddL (.int 1) (.int (ns.length / 6 : Nat)) = some (.int ((1 + ns.length / 6 : Nat) : Int)) := by rw [← ad]; rfl
      generalize ((1 + ns.length / 6 : Nat) : Int) = z at ad' hm
      generalize ns.length / 6 = y at dv ad'
      simp [dv, ad', hm, rr]
    show endR .pl (exs (cfg con0 defs 19 false) b_law [.fro (.list (zs ns)), .no, .no, .no, .no, .no, .no, .no, .no, .no, .no, .no, .no, .no, .no, .no]) = _
    rw [b_law, exs_cons, ex_for, i1, rf_ok, h]
    show endR .pl ((Fl.nx _).then _) = _
    rw [ft_nx]
    simp [b_law_5]
  rw [RF_succ (d := d_law) rfl] at key
  exact key

end K55

open PySem PySem.W PyProof.Rows
set_option maxHeartbeats 0 in
theorem PySem.Challenge.cw_choicerows_k55_machines_made_holds : PySem.Challenge.rw_choicerows_k55_machines_made.Holds := by
  w_on; o_law; k_head; (case hw => w_witness2)
  k_fill
  refine Dv.walk_dv (l := PySem.Challenge.rw_choicerows_k55_machines_made) (n := 63) (k := 40) (x := "_law_script") (CX := fun w => L2.CX PySem.Challenge.rw_choicerows_k55_machines_made.prog w) ⟨rfl, by decide, rfl, ⟨rfl, by decide, by decide⟩⟩ (fun w h Y => PySem.W.kIn_of Y) ?F (fun _ H s v s' h => Dv.no_exc H s v s' h)
  case F =>
    intro w mg fa h KX G hmg hTk
    refine' Dv.law_end (L := K55.tab) (cl := K55.conL) (bl := K55.builts) (d := K55.d_law) (stm := K55.topS 42) (n := 19) (cs := [(?cd_is_word, ?P_is_word), (?cd_is_tuple_of, ?P_is_tuple_of), (?cd_is_of_kind, ?P_is_of_kind), (?cd_kind_of_plain, ?P_kind_of_plain), (?cd_kind_of_several, ?P_kind_of_several)]) (lq := []) KX G hTk (by decide +kernel) K55.all_s (by simp [K55.tab]) rfl rfl rfl hmg K55.holds (.cons (Dv.DF.mkT (cd := ?cd_is_word) (P := ?P_is_word) rfl ?a_is_word ?l_is_word ?c_is_word ?k_is_word (by simp) ?q_is_word) (.cons (Dv.DF.mk' rfl rfl ?a_is_integer ?l_is_integer ?c_is_integer ?k_is_integer) (.cons (Dv.DF.mkT (cd := ?cd_is_tuple_of) (P := ?P_is_tuple_of) rfl ?a_is_tuple_of ?l_is_tuple_of ?c_is_tuple_of ?k_is_tuple_of (by simp) ?q_is_tuple_of) (.cons (Dv.DF.mkT (cd := ?cd_is_of_kind) (P := ?P_is_of_kind) rfl ?a_is_of_kind ?l_is_of_kind ?c_is_of_kind ?k_is_of_kind (by simp) ?q_is_of_kind) (.cons (Dv.DF.mk' rfl rfl ?a_is_list ?l_is_list ?c_is_list ?k_is_list) (.cons (Dv.DF.mk' rfl rfl ?a_fits_item ?l_fits_item ?c_fits_item ?k_fits_item) (.cons (Dv.DF.mk' rfl rfl ?a_fits_list ?l_fits_list ?c_fits_list ?k_fits_list) (.cons (Dv.DF.mk' rfl rfl ?a_fits ?l_fits ?c_fits ?k_fits) (.cons (Dv.DF.mk' rfl rfl ?a_kind_behind ?l_kind_behind ?c_kind_behind ?k_kind_behind) (.cons (Dv.DF.mk' rfl rfl ?a_parts_of ?l_parts_of ?c_parts_of ?k_parts_of) (.cons (Dv.DF.mkT (cd := ?cd_kind_of_plain) (P := ?P_kind_of_plain) rfl ?a_kind_of_plain ?l_kind_of_plain ?c_kind_of_plain ?k_kind_of_plain (by simp) ?q_kind_of_plain) (.cons (Dv.DF.mkT (cd := ?cd_kind_of_several) (P := ?P_kind_of_several) rfl ?a_kind_of_several ?l_kind_of_several ?c_kind_of_several ?k_kind_of_several (by simp) ?q_kind_of_several) (.cons (Dv.DF.mk' rfl rfl ?a_kind_of_whole ?l_kind_of_whole ?c_kind_of_whole ?k_kind_of_whole) (.cons (Dv.DF.mk' rfl rfl ?a_kind_at ?l_kind_at ?c_kind_at ?k_kind_at) (.cons (Dv.DF.mk' rfl rfl ?a_kind_of ?l_kind_of ?c_kind_of ?k_kind_of) (.cons (Dv.DF.mk' rfl rfl ?a_makes_integers ?l_makes_integers ?c_makes_integers ?k_makes_integers) (.cons (Dv.DF.mk' rfl rfl ?a_command_fault ?l_command_fault ?c_command_fault ?k_command_fault) (.cons (Dv.DF.mk' rfl rfl ?a_machine ?l_machine ?c_machine ?k_machine) (.cons (Dv.DF.mk' rfl rfl ?a_l_cell ?l_l_cell ?c_l_cell ?k_l_cell) (.cons (Dv.DF.mk' rfl rfl ?a_l_draw ?l_l_draw ?c_l_draw ?k_l_draw) (.cons (Dv.DF.mk' rfl rfl ?a_l_about ?l_l_about ?c_l_about ?k_l_about) (.cons (Dv.DF.mk' rfl rfl ?a_l_commands ?l_l_commands ?c_l_commands ?k_l_commands) (.cons (Dv.DF.mk' rfl rfl ?a_l_machine ?l_l_machine ?c_l_machine ?k_l_machine) (.cons (Dv.DF.mk' rfl rfl ?a_l_due ?l_l_due ?c_l_due ?k_l_due) (.cons (Dv.DF.mk' rfl rfl ?a_l_told ?l_l_told ?c_l_told ?k_l_told) (.cons (Dv.DF.mk' rfl rfl ?a_law ?l_law ?c_law ?k_law) (.nil))))))))))))))))))))))))))) (.cons ?z0 (.cons ?z1 (.cons ?z2 (.cons ?z3 (.cons ?z4 (.cons ?z5 (.cons ?z6 (.cons ?z7 (.cons ?z8 (.cons ?z9 (.cons ?z10 (.cons ?z11 (.cons ?z12 (.nil)))))))))))))) (.cons (Dv.CK.int ?y0) (.cons (Dv.CK.str ?y1) (.cons (Dv.CK.int ?y2) (.cons (Dv.CK.int ?y3) (.cons (Dv.CK.int ?y4) (.cons (Dv.CK.int ?y5) (.cons (Dv.CK.int ?y6) (.cons (Dv.CK.tup (ss := ["add", "take", "set"]) ?y7 ?yl7 ?yi7 ?yz7) (.cons (Dv.CK.int ?y8) (.nil)))))))))) (.cons (Dv.TK.mk' (x := "is_word") ?e_is_word ?f_is_word ?r_is_word ?g_is_word ?h_is_word ?i_is_word (by decide +kernel)) (.cons (Dv.TK.mk' (x := "is_tuple_of") ?e_is_tuple_of ?f_is_tuple_of ?r_is_tuple_of ?g_is_tuple_of ?h_is_tuple_of ?i_is_tuple_of (by decide +kernel)) (.cons (Dv.TK.mk' (x := "is_of_kind") ?e_is_of_kind ?f_is_of_kind ?r_is_of_kind ?g_is_of_kind ?h_is_of_kind ?i_is_of_kind (by decide +kernel)) (.cons (Dv.TK.mk' (x := "kind_of_plain") ?e_kind_of_plain ?f_kind_of_plain ?r_kind_of_plain ?g_kind_of_plain ?h_kind_of_plain ?i_kind_of_plain (by decide +kernel)) (.cons (Dv.TK.mk' (x := "kind_of_several") ?e_kind_of_several ?f_kind_of_several ?r_kind_of_several ?g_kind_of_several ?h_kind_of_several ?i_kind_of_several (by decide +kernel)) (.nil)))))) (.cons (Dv.XcOk.mk' (Dv.SupT.mk' (ve := true) (stm := K55.i_GeneratorError) K55.sh_GeneratorError ?xc_GeneratorError ?xs_GeneratorError (Dv.mem2 ?xn0_GeneratorError ?xn1_GeneratorError) ?xi_GeneratorError ?xt_GeneratorError ?xk_GeneratorError ?xb_GeneratorError ?xy_GeneratorError ?xu_GeneratorError ?xB_GeneratorError ?xm_GeneratorError ?xe_GeneratorError ?xo_GeneratorError (PySem.W.mg_none_of KX G ?xq_GeneratorError) ?xl_GeneratorError ?xd_GeneratorError ?xf_GeneratorError ?xg_GeneratorError ?xv_GeneratorError ?xw_GeneratorError ?xz_GeneratorError) (by simp) (by decide) (PySem.W.mg_of KX G ?xa_GeneratorError) (L2.xfB_ok ?xx_GeneratorError) ?xy2_GeneratorError (Dv.up_none (by decide +kernel))) (.cons (Dv.XcOk.mk' (Dv.SupT.mk' (ve := true) (stm := K55.i_MachineError) K55.sh_MachineError ?xc_MachineError ?xs_MachineError (Dv.mem2 ?xn0_MachineError ?xn1_MachineError) ?xi_MachineError ?xt_MachineError ?xk_MachineError ?xb_MachineError ?xy_MachineError ?xu_MachineError ?xB_MachineError ?xm_MachineError ?xe_MachineError ?xo_MachineError (PySem.W.mg_none_of KX G ?xq_MachineError) ?xl_MachineError ?xd_MachineError ?xf_MachineError ?xg_MachineError ?xv_MachineError ?xw_MachineError ?xz_MachineError) (by simp) (by decide) (PySem.W.mg_of KX G ?xa_MachineError) (L2.xfB_ok ?xx_MachineError) ?xy2_MachineError (Dv.up_one (base := "ChoiceError") (by decide +kernel) (PySem.W.mg_of KX G ?xa2_MachineError) (PySem.W.mg_of KX G ?ua_MachineError) ?ue_MachineError ⟨?u0_MachineError, ?u1_MachineError, ?u2_MachineError, ?u3_MachineError, ?u4_MachineError, ?u5_MachineError, ?u6_MachineError, ?u7_MachineError⟩ ?uk_MachineError)) (.nil))) (.nil)
    (case xa_GeneratorError => k_is); (case xi_GeneratorError => k_is); (case xl_GeneratorError => k_is); (case xf_GeneratorError => k_is); (case xg_GeneratorError => k_is); (case xv_GeneratorError => rfl); (case xs_GeneratorError => first | k_is | kernel_rfl); (case xt_GeneratorError => first | k_is | kernel_rfl); (case xk_GeneratorError => first | k_is | kernel_rfl); (case xb_GeneratorError => first | k_is | kernel_rfl); (case xy_GeneratorError => first | k_is | kernel_rfl); (case xB_GeneratorError => first | k_is | kernel_rfl); (case xo_GeneratorError => first | k_is | kernel_rfl); (case xq_GeneratorError => first | k_is | kernel_rfl); (case xd_GeneratorError => first | k_is | kernel_rfl); (case xn0_GeneratorError => first | k_is | kernel_rfl); (case xn1_GeneratorError => first | k_is | kernel_rfl); (case xc_GeneratorError => kernel_rfl); (case xu_GeneratorError => kernel_rfl); (case xm_GeneratorError => kernel_rfl); (case xe_GeneratorError => kernel_rfl); (case xw_GeneratorError => kernel_rfl); (case xz_GeneratorError => kernel_rfl); (case xx_GeneratorError => kernel_rfl); (case xy2_GeneratorError => kernel_rfl); (case xa_MachineError => k_is); (case xi_MachineError => k_is); (case xl_MachineError => k_is); (case xf_MachineError => k_is); (case xg_MachineError => k_is); (case xv_MachineError => rfl); (case xs_MachineError => first | k_is | kernel_rfl); (case xt_MachineError => first | k_is | kernel_rfl); (case xk_MachineError => first | k_is | kernel_rfl); (case xb_MachineError => first | k_is | kernel_rfl); (case xy_MachineError => first | k_is | kernel_rfl); (case xB_MachineError => first | k_is | kernel_rfl); (case xo_MachineError => first | k_is | kernel_rfl); (case xq_MachineError => first | k_is | kernel_rfl); (case xd_MachineError => first | k_is | kernel_rfl); (case xn0_MachineError => first | k_is | kernel_rfl); (case xn1_MachineError => first | k_is | kernel_rfl); (case xc_MachineError => kernel_rfl); (case xu_MachineError => kernel_rfl); (case xm_MachineError => kernel_rfl); (case xe_MachineError => kernel_rfl); (case xw_MachineError => kernel_rfl); (case xz_MachineError => kernel_rfl); (case xx_MachineError => kernel_rfl); (case xy2_MachineError => kernel_rfl); (case xa2_MachineError => k_is); (case ua_MachineError => k_is); (case ue_MachineError => first | kernel_rfl | k_is); (case uk_MachineError => first | kernel_rfl | k_is); (case u0_MachineError => first | kernel_rfl | k_is); (case u1_MachineError => first | kernel_rfl | k_is); (case u2_MachineError => first | kernel_rfl | k_is); (case u3_MachineError => first | kernel_rfl | k_is); (case u4_MachineError => first | kernel_rfl | k_is); (case u5_MachineError => first | kernel_rfl | k_is); (case u6_MachineError => first | kernel_rfl | k_is); (case u7_MachineError => first | kernel_rfl | k_is); (case a_is_word => k_is); (case l_is_word => k_is); (case c_is_word => k_is); (case k_is_word => k_is); (case e_is_word => k_is); (case f_is_word => k_is); (case r_is_word => rfl); (case g_is_word => k_is); (case h_is_word => rfl); (case i_is_word => rfl); (case a_is_integer => k_is); (case l_is_integer => k_is); (case c_is_integer => k_is); (case k_is_integer => k_is); (case a_is_tuple_of => k_is); (case l_is_tuple_of => k_is); (case c_is_tuple_of => k_is); (case k_is_tuple_of => k_is); (case e_is_tuple_of => k_is); (case f_is_tuple_of => k_is); (case r_is_tuple_of => rfl); (case g_is_tuple_of => k_is); (case h_is_tuple_of => rfl); (case i_is_tuple_of => rfl); (case a_is_of_kind => k_is); (case l_is_of_kind => k_is); (case c_is_of_kind => k_is); (case k_is_of_kind => k_is); (case e_is_of_kind => k_is); (case f_is_of_kind => k_is); (case r_is_of_kind => rfl); (case g_is_of_kind => k_is); (case h_is_of_kind => rfl); (case i_is_of_kind => rfl); (case a_is_list => k_is); (case l_is_list => k_is); (case c_is_list => k_is); (case k_is_list => k_is); (case a_fits_item => k_is); (case l_fits_item => k_is); (case c_fits_item => k_is); (case k_fits_item => k_is); (case a_fits_list => k_is); (case l_fits_list => k_is); (case c_fits_list => k_is); (case k_fits_list => k_is); (case a_fits => k_is); (case l_fits => k_is); (case c_fits => k_is); (case k_fits => k_is); (case a_kind_behind => k_is); (case l_kind_behind => k_is); (case c_kind_behind => k_is); (case k_kind_behind => k_is); (case a_parts_of => k_is); (case l_parts_of => k_is); (case c_parts_of => k_is); (case k_parts_of => k_is); (case a_kind_of_plain => k_is); (case l_kind_of_plain => k_is); (case c_kind_of_plain => k_is); (case k_kind_of_plain => k_is); (case e_kind_of_plain => k_is); (case f_kind_of_plain => k_is); (case r_kind_of_plain => rfl); (case g_kind_of_plain => k_is); (case h_kind_of_plain => rfl); (case i_kind_of_plain => rfl); (case a_kind_of_several => k_is); (case l_kind_of_several => k_is); (case c_kind_of_several => k_is); (case k_kind_of_several => k_is); (case e_kind_of_several => k_is); (case f_kind_of_several => k_is); (case r_kind_of_several => rfl); (case g_kind_of_several => k_is); (case h_kind_of_several => rfl); (case i_kind_of_several => rfl); (case a_kind_of_whole => k_is); (case l_kind_of_whole => k_is); (case c_kind_of_whole => k_is); (case k_kind_of_whole => k_is); (case a_kind_at => k_is); (case l_kind_at => k_is); (case c_kind_at => k_is); (case k_kind_at => k_is); (case a_kind_of => k_is); (case l_kind_of => k_is); (case c_kind_of => k_is); (case k_kind_of => k_is); (case a_makes_integers => k_is); (case l_makes_integers => k_is); (case c_makes_integers => k_is); (case k_makes_integers => k_is); (case a_command_fault => k_is); (case l_command_fault => k_is); (case c_command_fault => k_is); (case k_command_fault => k_is); (case a_machine => k_is); (case l_machine => k_is); (case c_machine => k_is); (case k_machine => k_is); (case a_l_cell => k_is); (case l_l_cell => k_is); (case c_l_cell => k_is); (case k_l_cell => k_is); (case a_l_draw => k_is); (case l_l_draw => k_is); (case c_l_draw => k_is); (case k_l_draw => k_is); (case a_l_about => k_is); (case l_l_about => k_is); (case c_l_about => k_is); (case k_l_about => k_is); (case a_l_commands => k_is); (case l_l_commands => k_is); (case c_l_commands => k_is); (case k_l_commands => k_is); (case a_l_machine => k_is); (case l_l_machine => k_is); (case c_l_machine => k_is); (case k_l_machine => k_is); (case a_l_due => k_is); (case l_l_due => k_is); (case c_l_due => k_is); (case k_l_due => k_is); (case a_l_told => k_is); (case l_l_told => k_is); (case c_l_told => k_is); (case k_l_told => k_is); (case a_law => k_is); (case l_law => k_is); (case c_law => k_is); (case k_law => k_is); (case z0 => k_is); (case z1 => k_is); (case z2 => k_is); (case z3 => k_is); (case z4 => k_is); (case z5 => k_is); (case z6 => k_is); (case z7 => k_is); (case z8 => k_is); (case z9 => k_is); (case z10 => k_is); (case z11 => k_is); (case z12 => k_is); (case y0 => k_is); (case y1 => k_is); (case y2 => k_is); (case y3 => k_is); (case y4 => k_is); (case y5 => k_is); (case y6 => k_is); (case y7 => k_is); (case yl7 => k_is); (case yi7 => rfl); (case yz7 => decide); (case y8 => k_is); (case q_is_word => rfl); (case q_is_tuple_of => rfl); (case q_is_of_kind => rfl); (case q_kind_of_plain => rfl); (case q_kind_of_several => rfl)

