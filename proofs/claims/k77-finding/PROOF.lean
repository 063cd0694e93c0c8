import PyProof.Rows.All
import Wide.All
import OpenK.AllK
import Wide.FinOn
import HandS.ForMost
import HandS.Evl
import HandS.Zip
import HandS.DictComp
import HandS.Style
import HandS.IsInst
import HandS.SortInts
import HandS.Wide
import HandS.More
import KE.KDictDisplayH
import PySem.Challenge.RW_fewmends_k77_whole_finding
import HandS.Codes
import HandS.TupSets
import HandS.SortOrd
import KE.KSortTupG
import HandS.Strs
import PyProof.ListStr
import HandS.Walk
import HandS.Conv
import PyProof.StrBlock2
import PyProof.Rows.StrJoinRep
set_option Elab.async false
set_option linter.all false
set_option autoImplicit false
set_option maxRecDepth 100000
set_option maxHeartbeats 4000000
/-! typed readings over the hand layer -/
namespace Fm
open PySem L2
/-- all but the objects at M stands; tuples stand always -/
structure Fx (M : List Addr) (H H' : Hp) : Prop where
  keep : ∀ a o, a ∉ M → H a = some o → H' a = some o
  tups : ∀ a xs, H a = some (.tup xs) → H' a = some (.tup xs)
abbrev Fe (H H' : Hp) : Prop := Fx [] H H'
theorem Fx.refl (M : List Addr) (H : Hp) : Fx M H H := ⟨fun _ _ _ h => h, fun _ _ h => h⟩
theorem Fx.trans {M : List Addr} {H H1 H2 : Hp} (a : Fx M H H1) (b : Fx M H1 H2) : Fx M H H2 :=
  ⟨fun c o n h => b.keep c o n (a.keep c o n h), fun c xs h => b.tups c xs (a.tups c xs h)⟩
theorem Fx.wk {M N : List Addr} {H H' : Hp} (a : Fx M H H') (s : ∀ x ∈ M, x ∈ N) : Fx N H H' :=
  ⟨fun c o n h => a.keep c o (fun q => n (s c q)) h, a.tups⟩
theorem Fx.to {M : List Addr} {H H' : Hp} (a : Fe H H') : Fx M H H' := a.wk (fun _ q => nomatch q)
theorem Fx.k {H H' : Hp} (a : Fe H H') {p : Addr} {o : HO} (h : H p = some o) : H' p = some o := a.keep p o (fun q => nomatch q) h
theorem Fe.new {H : Hp} {p : Addr} {o : HO} (hp : H p = none) : Fe H (upd H p o) :=
  ⟨fun a o' _ h => by rw [upd_ne (ne_of_none h hp)]; exact h, fun a xs h => by rw [upd_ne (ne_of_none h hp)]; exact h⟩
/-- an object that is no tuple is written -/
theorem Fx.put {M : List Addr} {H : Hp} {p : Addr} {o u : HO} (hp : H p = some u) (hM : p ∈ M) (hu : ∀ xs, u ≠ .tup xs) : Fx M H (upd H p o) :=
  ⟨fun a o' n h => by rw [upd_ne (fun e => n (by rw [e]; exact hM))]; exact h,
   fun a xs h => by rw [upd_ne (fun e => by rw [e, hp] at h; exact hu xs (Option.some.inj h))]; exact h⟩
/-- an object that H did not know is written: for H nothing has changed -/
theorem Fx.mut {H H' : Hp} {p : Addr} {o : HO} (e : Fe H H') (hp : H p = none) : Fe H (upd H' p o) :=
  ⟨fun a o' _ h => by rw [upd_ne (ne_of_none h hp)]; exact e.k h, fun a xs h => by rw [upd_ne (ne_of_none h hp)]; exact e.k h⟩
theorem Fx.free {H H' : Hp} (e : Fe H H') {p : Addr} (h : H' p = none) : H p = none := by
  cases q : H p with
  | none => rfl
  | some o => rw [e.k q] at h; cases h
theorem Fx.same {H H' : Hp} (e : Fe H H') : Same H H' := fun b o h => e.k h
theorem Same.fe {H H' : Hp} (e : Same H H') : Fe H H' := ⟨fun b o _ h => e b o h, fun b xs h => e b _ h⟩

/-! ### data by values -/
abbrev Rp (α : Type) := Hp → V → α → Prop
class Mo {α : Type} (r : Rp α) : Prop where
  mo : ∀ {M : List Addr} {H H' : Hp} {v : V} {x : α}, Fx M H H' → r H v x → r H' v x
def rI : Rp Int := fun _ v i => v = .int i
def rN : Rp Nat := fun _ v n => v = .int (n : Int)
def rB : Rp Bool := fun _ v b => v = .bl b
/-- a text by its codes -/
def rS : Rp (List Nat) := fun _ v l => v = .str ⟨l.toArray⟩
def rX : Rp Unit := fun _ _ _ => True
def rO {α : Type} (r : Rp α) : Rp (Option α) := fun H v o => match o with
  | none => v = .non
  | some x => r H v x
def rP {α β : Type} (r : Rp α) (q : Rp β) : Rp (α × β) := fun H v p => ∃ a x y, v = .ref a ∧ H a = some (.tup [x, y]) ∧ r H x p.1 ∧ q H y p.2
def rP3 {α β γ : Type} (r : Rp α) (q : Rp β) (t : Rp γ) : Rp (α × β × γ) := fun H v p => ∃ a x y z, v = .ref a ∧ H a = some (.tup [x, y, z]) ∧ r H x p.1 ∧ q H y p.2.1 ∧ t H z p.2.2
abbrev Al {α : Type} (r : Rp α) (H : Hp) : List V → List α → Prop := Paired (r H)
/-- a tuple, item by item -/
def rT {α : Type} (r : Rp α) : Rp (List α) := fun H v l => ∃ a xs, v = .ref a ∧ H a = some (.tup xs) ∧ Al r H xs l
instance : Mo rI := ⟨fun _ h => h⟩
instance : Mo rN := ⟨fun _ h => h⟩
instance : Mo rB := ⟨fun _ h => h⟩
instance : Mo rS := ⟨fun _ h => h⟩
instance : Mo rX := ⟨fun _ h => h⟩
instance {α : Type} {r : Rp α} [Mo r] : Mo (rO r) := ⟨fun {_ _ _ _ x} f h => by
  cases x with
  | none => exact h
  | some y => exact Mo.mo (r := r) f h⟩
instance {α β : Type} {r : Rp α} {q : Rp β} [Mo r] [Mo q] : Mo (rP r q) :=
  ⟨fun f ⟨a, x, y, e, h, h1, h2⟩ => ⟨a, x, y, e, f.tups _ _ h, Mo.mo (r := r) f h1, Mo.mo (r := q) f h2⟩⟩
instance {α β γ : Type} {r : Rp α} {q : Rp β} {t : Rp γ} [Mo r] [Mo q] [Mo t] : Mo (rP3 r q t) :=
  ⟨fun f ⟨a, x, y, z, e, h, h1, h2, h3⟩ => ⟨a, x, y, z, e, f.tups _ _ h, Mo.mo (r := r) f h1, Mo.mo (r := q) f h2, Mo.mo (r := t) f h3⟩⟩
theorem Al.mo {α : Type} {r : Rp α} [Mo r] {M : List Addr} {H H' : Hp} {xs : List V} {l : List α} (f : Fx M H H') (h : Al r H xs l) : Al r H' xs l := L2.Paired.mapP h fun _ _ q => Mo.mo (r := r) f q
instance {α : Type} {r : Rp α} [Mo r] : Mo (rT r) := ⟨fun f ⟨a, xs, e, h, h1⟩ => ⟨a, xs, e, f.tups _ _ h, Al.mo f h1⟩⟩
/-- a list, item by item (read only: it stands while nobody writes it) -/
def rL {α : Type} (r : Rp α) : Rp (List α) := fun H v l => ∃ a xs, v = .ref a ∧ H a = some (.lst xs) ∧ Al r H xs l
/-- data that stand while nothing that was known is written -/
class Me {α : Type} (r : Rp α) : Prop where
  me : ∀ {H H' : Hp} {v : V} {x : α}, Fe H H' → r H v x → r H' v x
instance (priority := low) {α : Type} {r : Rp α} [Mo r] : Me r := ⟨fun f h => Mo.mo (r := r) f h⟩
theorem Al.me {α : Type} {r : Rp α} [Me r] {H H' : Hp} {xs : List V} {l : List α} (f : Fe H H') (h : Al r H xs l) : Al r H' xs l := L2.Paired.mapP h fun _ _ q => Me.me (r := r) f q
instance {α : Type} {r : Rp α} [Me r] : Me (rL r) := ⟨fun f ⟨a, xs, e, h, h1⟩ => ⟨a, xs, e, f.k h, Al.me f h1⟩⟩
instance {α : Type} {r : Rp α} [Me r] : Me (rT r) := ⟨fun f ⟨a, xs, e, h, h1⟩ => ⟨a, xs, e, f.k h, Al.me f h1⟩⟩
instance {α β : Type} {r : Rp α} {q : Rp β} [Me r] [Me q] : Me (rP r q) :=
  ⟨fun f ⟨a, x, y, e, h, h1, h2⟩ => ⟨a, x, y, e, f.k h, Me.me (r := r) f h1, Me.me (r := q) f h2⟩⟩
instance {α β γ : Type} {r : Rp α} {q : Rp β} {t : Rp γ} [Me r] [Me q] [Me t] : Me (rP3 r q t) :=
  ⟨fun f ⟨a, x, y, z, e, h, h1, h2, h3⟩ => ⟨a, x, y, z, e, f.k h, Me.me (r := r) f h1, Me.me (r := q) f h2, Me.me (r := t) f h3⟩⟩
instance {α : Type} {r : Rp α} [Me r] : Me (rO r) := ⟨fun {_ _ _ x} f h => by
  cases x with
  | none => exact h
  | some y => exact Me.me (r := r) f h⟩
theorem Me.go {α : Type} {r : Rp α} [Me r] {H H' : Hp} {v : V} {x : α} (h : r H v x) (f : Fe H H') : r H' v x := Me.me (r := r) f h
theorem Al.len {α : Type} {r : Rp α} {H : Hp} {xs : List V} {l : List α} (h : Al r H xs l) : xs.length = l.length := Paired.length h
theorem Al.get {α : Type} {r : Rp α} {H : Hp} : ∀ {xs : List V} {l : List α}, Al r H xs l → ∀ {i : Nat} {x : V}, xs[i]? = some x → ∃ y, l[i]? = some y ∧ r H x y
  | _, _, .nil, i, x, e => by cases i <;> cases e
  | _, _, .cons h t, 0, x, e => by cases e; exact ⟨_, rfl, h⟩
  | _, _, .cons h t, i + 1, x, e => Al.get t (i := i) (x := x) e
theorem Al.at {α : Type} {r : Rp α} {H : Hp} : ∀ {xs : List V} {l : List α}, Al r H xs l → ∀ {i : Nat} {y : α}, l[i]? = some y → ∃ x, xs[i]? = some x ∧ r H x y
  | _, _, .nil, i, x, e => by cases i <;> cases e
  | _, _, .cons h t, 0, x, e => by cases e; exact ⟨_, rfl, h⟩
  | _, _, .cons h t, i + 1, x, e => Al.at t (i := i) (y := x) e
theorem Al.snoc {α : Type} {r : Rp α} {H : Hp} {x : V} {y : α} (q : r H x y) : ∀ {xs : List V} {l : List α}, Al r H xs l → Al r H (xs ++ [x]) (l ++ [y])
  | _, _, .nil => .cons q .nil
  | _, _, .cons h t => .cons h (Al.snoc q t)
theorem Al.set {α : Type} {r : Rp α} {H : Hp} {x : V} {y : α} (q : r H x y) : ∀ {xs : List V} {l : List α} (i : Nat), Al r H xs l → Al r H (xs.set i x) (l.set i y)
  | _, _, _, .nil => .nil
  | _, _, 0, .cons h t => .cons q t
  | _, _, i + 1, .cons h t => .cons h (Al.set q i t)
theorem Al.app {α : Type} {r : Rp α} {H : Hp} : ∀ {xs ys : List V} {l m : List α}, Al r H xs l → Al r H ys m → Al r H (xs ++ ys) (l ++ m)
  | _, _, _, _, .nil, s => s
  | _, _, _, _, .cons h t, s => .cons h (Al.app t s)
theorem Al.ints {H : Hp} : ∀ {xs : List V} {l : List Int}, Al rI H xs l → xs = l.map V.int
  | _, _, .nil => rfl
  | _, _, .cons h t => by rw [List.map_cons, ← Al.ints t, h]
theorem Al.ofInts {H : Hp} : ∀ l : List Int, Al rI H (l.map V.int) l
  | [] => .nil
  | x :: l => .cons rfl (Al.ofInts l)
theorem Al.nats {H : Hp} : ∀ {xs : List V} {l : List Nat}, Al rN H xs l → xs = l.map fun n : Nat => V.int (n : Int)
  | _, _, .nil => rfl
  | _, _, .cons h t => by rw [List.map_cons, ← Al.nats t, h]
theorem Al.ofNats {H : Hp} : ∀ l : List Nat, Al rN H (l.map fun n : Nat => V.int (n : Int)) l
  | [] => .nil
  | x :: l => .cons rfl (Al.ofNats l)
theorem Al.bools {H : Hp} : ∀ {xs : List V} {l : List Bool}, Al rB H xs l → xs = l.map V.bl
  | _, _, .nil => rfl
  | _, _, .cons h t => by rw [List.map_cons, ← Al.bools t, h]
theorem Al.ofBools {H : Hp} : ∀ l : List Bool, Al rB H (l.map V.bl) l
  | [] => .nil
  | x :: l => .cons rfl (Al.ofBools l)

/-! ### defs of the text, as the top leaves them -/
structure Def (K : PySem.W.Frag) (g : Str → Option Value) (name qual : Str) (st : Stmt) (ps : List Str) where
  f : Addr
  fd : FuncData
  F : Fun K name qual st f fd
  mg : g name = some (.ref f)
  b : Binds K fd ps []
abbrev Def.kp {K : PySem.W.Frag} {g : Str → Option Value} {name qual : Str} {st : Stmt} {ps : List Str} (d : Def K g name qual st ps) := d.F.kp
structure DefM (K : PySem.W.Frag) (C : Addr) (name qual : Str) (st : Stmt) (ps : List Str) where
  f : Addr
  fd : FuncData
  F : Fun K name qual st f fd
  m : Meth K C name f
  b : Binds K fd ps []
abbrev DefM.kp {K : PySem.W.Frag} {C : Addr} {name qual : Str} {st : Stmt} {ps : List Str} (d : DefM K C name qual st ps) := d.F.kp

/-- the int in a slot -/
def slotI (σ : L2.St) (i : Nat) : Int := match σ[i]? with
  | some (some (V.int k)) => k
  | _ => 0
/-! ### loops by a running value -/
section
variable {K : PySem.W.Frag} {tb : TS} {D : Ends} {σ : L2.St} {H : Hp} {α : Type} {g : TG}
/-- over a list that stands: Inv says what holds behind i turns -/
theorem for_lst {a : Addr} {xs : List V} (Pv : Nat → L2.St → Hp → Prop) (h0 : Pv 0 σ H) (hl : ∀ i σ' H', i ≤ xs.length → Pv i σ' H' → H' a = some (.lst xs))
    (hs : ∀ i x σ' H', xs[i]? = some x → Pv i σ' H' → g x σ' H' fun σ2 H2 => tb { D with nx := Pv (i + 1), ct := Pv (i + 1), bk := D.nx } σ2 H2) (hd : ∀ σ' H', Pv xs.length σ' H' → D.nx σ' H') :
    ∃ W : Nat → Nat → L2.St → Hp → Prop, (∃ m, W 0 m σ H) ∧ ∀ i m σ H, W i m σ H →
      ((Itl K a).stop i H ∧ D.nx σ H) ∨ ((Itl K a).go i H ∧ ∃ N : L2.St → Hp → Prop, (∀ σ' H', N σ' H' → ∃ m', m' < m ∧ W (i + 1) m' σ' H') ∧ ∀ x H', (Itl K a).yld i H x H' → g x σ H' fun σ2 H2 => tb { D with nx := N, ct := N, bk := D.nx } σ2 H2) :=
  for_list (K := K) (xs := xs) Pv h0 (fun i σ' H' hi h => SqL.of (hl i σ' H' hi h)) hs hd
/-- over a text's signs -/
theorem for_str {l : List Nat} (Pv : Nat → L2.St → Hp → Prop) (h0 : Pv 0 σ H)
    (hs : ∀ i c σ' H', l[i]? = some c → Pv i σ' H' → g (.str ⟨#[c]⟩) σ' H' fun σ2 H2 => tb { D with nx := Pv (i + 1), ct := Pv (i + 1), bk := D.nx } σ2 H2) (hd : ∀ σ' H', Pv l.length σ' H' → D.nx σ' H') :
    ∃ W : Nat → Nat → L2.St → Hp → Prop, (∃ m, W 0 m σ H) ∧ ∀ i m σ H, W i m σ H →
      ((Its ⟨l.toArray⟩).stop i H ∧ D.nx σ H) ∨ ((Its ⟨l.toArray⟩).go i H ∧ ∃ N : L2.St → Hp → Prop, (∀ σ' H', N σ' H' → ∃ m', m' < m ∧ W (i + 1) m' σ' H') ∧ ∀ x H', (Its ⟨l.toArray⟩).yld i H x H' → g x σ H' fun σ2 H2 => tb { D with nx := N, ct := N, bk := D.nx } σ2 H2) := by
  refine ⟨fun i m σ' H' => i + m = l.length ∧ Pv i σ' H', ⟨l.length, by omega, h0⟩, ?_⟩
  rintro i m σ' H' ⟨e, h⟩
  by_cases hi : i < l.length
  · refine .inr ⟨by show i < (l.toArray).size; rw [List.size_toArray]; exact hi, fun σ2 H2 => Pv (i + 1) σ2 H2, fun σ2 H2 q => ⟨m - 1, by omega, by omega, q⟩, ?_⟩
    rintro x H2 ⟨rfl, c, hc, rfl⟩
    refine hs i c σ' _ ?_ h
    have hc' : l.toArray[i]? = some c := hc
    rw [List.getElem?_toArray] at hc'
    exact hc'
  · refine .inl ⟨by show (l.toArray).size ≤ i; rw [List.size_toArray]; omega, ?_⟩
    have e2 : i = l.length := by omega
    rw [e2] at h
    exact hd _ _ h
/-- over enumerate of a list that stands -/
theorem for_enum {a : Addr} {xs : List V} (Pv : Nat → L2.St → Hp → Prop) (h0 : Pv 0 σ H) (hl : ∀ i σ' H', i ≤ xs.length → Pv i σ' H' → H' a = some (.lst xs))
    (hs : ∀ i x σ' H' T, xs[i]? = some x → Pv i σ' H' → H' T = none → g (.ref T) σ' (upd H' T (.tup [.int (i : Int), x])) fun σ2 H2 => tb { D with nx := Pv (i + 1), ct := Pv (i + 1), bk := D.nx } σ2 H2) (hd : ∀ σ' H', Pv xs.length σ' H' → D.nx σ' H') :
    ∃ W : Nat → Nat → L2.St → Hp → Prop, (∃ m, W 0 m σ H) ∧ ∀ i m σ H, W i m σ H →
      ((Ite K a).stop i H ∧ D.nx σ H) ∨ ((Ite K a).go i H ∧ ∃ N : L2.St → Hp → Prop, (∀ σ' H', N σ' H' → ∃ m', m' < m ∧ W (i + 1) m' σ' H') ∧ ∀ x H', (Ite K a).yld i H x H' → g x σ H' fun σ2 H2 => tb { D with nx := N, ct := N, bk := D.nx } σ2 H2) := by
  refine ⟨fun i m σ' H' => i + m = xs.length ∧ Pv i σ' H', ⟨xs.length, by omega, h0⟩, ?_⟩
  rintro i m σ' H' ⟨e, h⟩
  have hL := hl i σ' H' (by omega) h
  by_cases hi : i < xs.length
  · have hx : xs[i]? = some xs[i] := List.getElem?_eq_getElem hi
    refine .inr ⟨⟨xs, xs[i], SqL.of hL, hx⟩, fun σ2 H2 => Pv (i + 1) σ2 H2, fun σ2 H2 q => ⟨m - 1, by omega, by omega, q⟩, ?_⟩
    rintro v H2 ⟨T, x, rfl, hT, rfl, hx2⟩
    exact hs i x σ' H' T (hx2 xs (SqL.of hL)) h hT
  · have e2 : i = xs.length := by omega
    subst e2
    exact .inl ⟨⟨xs, SqL.of hL, Nat.le_refl _⟩, hd _ _ h⟩
end
end Fm
/-! lists of own lists (rows that a def fills) -/
namespace Fm
open PySem L2
/-- at p a list of lists of our own, made since H0: their rows -/
structure Mat {α : Type} (r : Rp α) (H0 H : Hp) (p : Addr) (qs : List Addr) (rows : List (List α)) : Prop where
  at_ : H p = some (.lst (qs.map V.ref))
  nd : qs.Nodup
  ne : p ∉ qs
  new : ∀ q ∈ qs, H0 q = none
  newp : H0 p = none
  len : qs.length = rows.length
  row : ∀ (i : Nat) (q : Addr) (row : List α), qs[i]? = some q → rows[i]? = some row → ∃ xs, H q = some (.lst xs) ∧ Al r H xs row
theorem Mat.get {α : Type} {r : Rp α} {H0 H : Hp} {p : Addr} {qs : List Addr} {rows : List (List α)} (M : Mat r H0 H p qs rows) {i : Nat} {row : List α} (h : rows[i]? = some row) :
    ∃ q xs, qs[i]? = some q ∧ q ∈ qs ∧ H q = some (.lst xs) ∧ Al r H xs row := by
  have hi : i < qs.length := by rw [M.len]; exact (List.getElem?_eq_some_iff.mp h).1
  have hq : qs[i]? = some qs[i] := List.getElem?_eq_getElem hi
  obtain ⟨xs, h1, h2⟩ := M.row i _ row hq h
  exact ⟨qs[i], xs, hq, List.getElem_mem hi, h1, h2⟩
/-- the rows stand where only things unknown to them, or objects that are not theirs, are written -/
theorem Mat.keep {α : Type} {r : Rp α} [Mo r] {H0 H H' : Hp} {p : Addr} {qs : List Addr} {rows : List (List α)} (M : Mat r H0 H p qs rows) {L : List Addr} (f : Fx L H H') (hp : p ∉ L) (hq : ∀ q ∈ qs, q ∉ L) : Mat r H0 H' p qs rows where
  at_ := f.keep _ _ hp M.at_
  nd := M.nd
  ne := M.ne
  new := M.new
  newp := M.newp
  len := M.len
  row := fun i q row h1 h2 => by
    obtain ⟨xs, a, b⟩ := M.row i q row h1 h2
    exact ⟨xs, f.keep _ _ (hq q (List.mem_of_getElem? h1)) a, Al.mo f b⟩
theorem Mat.fe {α : Type} {r : Rp α} [Mo r] {H0 H H' : Hp} {p : Addr} {qs : List Addr} {rows : List (List α)} (M : Mat r H0 H p qs rows) (f : Fe H H') : Mat r H0 H' p qs rows := M.keep f (fun q => nomatch q) (fun _ _ q => nomatch q)
/-- an item put behind a row -/
theorem Mat.put {α : Type} {r : Rp α} [Mo r] {H0 H : Hp} {p : Addr} {qs : List Addr} {rows : List (List α)} (M : Mat r H0 H p qs rows) {i : Nat} {q : Addr} {row : List α} {xs : List V} {v : V} {x : α}
    (hq : qs[i]? = some q) (hr : rows[i]? = some row) (hx : H q = some (.lst xs)) (ha : Al r H xs row) (h : r H v x) : Mat r H0 (upd H q (.lst (xs ++ [v]))) p qs (rows.set i (row ++ [x])) := by
  have hm := List.mem_of_getElem? hq
  have f : Fx [q] H (upd H q (.lst (xs ++ [v]))) := Fx.put hx (List.mem_singleton.mpr rfl) (fun _ z => nomatch z)
  have np : p ≠ q := fun e => M.ne (e ▸ hm)
  refine ⟨by rw [upd_ne np]; exact M.at_, M.nd, M.ne, M.new, M.newp, by rw [List.length_set]; exact M.len, fun j q' row' h1 h2 => ?_⟩
  by_cases e : i = j
  · subst e
    rw [hq] at h1; cases h1
    rw [List.getElem?_set, if_pos rfl, if_pos (List.getElem?_eq_some_iff.mp hr).1] at h2
    cases h2
    exact ⟨_, upd_same, Al.snoc (Mo.mo (r := r) f h) (Al.mo f ha)⟩
  · rw [List.getElem?_set, if_neg e] at h2
    have ne : q' ≠ q := fun z => e (nd_ix M.nd hq (z ▸ h1))
    obtain ⟨ys, a, b⟩ := M.row j q' row' h1 h2
    exact ⟨ys, by rw [upd_ne ne]; exact a, Al.mo f b⟩
theorem Mat.rl {α : Type} {r : Rp α} {H0 H : Hp} {p : Addr} {qs : List Addr} {rows : List (List α)} (M : Mat r H0 H p qs rows) : rL (rL r) H (.ref p) rows := by
  refine ⟨p, _, rfl, M.at_, ?_⟩
  have := M.row
  have hl := M.len
  clear M
  induction qs generalizing rows with
  | nil =>
    cases rows with
    | nil => exact .nil
    | cons r rs => cases hl
  | cons q qs ih =>
    cases rows with
    | nil => cases hl
    | cons r rs =>
      obtain ⟨xs, a, b⟩ := this 0 q r rfl rfl
      exact .cons ⟨q, xs, rfl, a, b⟩ (ih (fun i q row h1 h2 => this (i + 1) q row h1 h2) (by simpa using hl))
/-- behind i turns of [[] for _ in ..]: D the new list -/
def MatC (H1 : Hp) (D : Addr) (i : Nat) (H' : Hp) : Prop := H1 D = none ∧ Fe H1 H' ∧ ∃ qs : List Addr, qs.length = i ∧ H' D = some (.lst (qs.map V.ref)) ∧ qs.Nodup ∧ D ∉ qs ∧ ∀ q ∈ qs, H1 q = none ∧ H' q = some (.lst [])
theorem MatC.start {H1 : Hp} {D : Addr} (h : H1 D = none) : MatC H1 D 0 (upd H1 D (.lst [])) :=
  ⟨h, Fe.new h, [], rfl, upd_same, List.nodup_nil, (by simp), (by simp)⟩
theorem MatC.turn {H1 H' : Hp} {D : Addr} {i : Nat} (m : MatC H1 D i H') (hi : i < 1000000) {p : Addr} (hp : H' p = none) :
    ∃ acc, (upd H' p (.lst [])) D = some (.lst acc) ∧ acc.length < sizeLine ∧ MatC H1 D (i + 1) (upd (upd H' p (.lst [])) D (.lst (acc ++ [.ref p]))) := by
  obtain ⟨h1, f, qs, hl, hD, nd, ne, hq⟩ := m
  have nDp : D ≠ p := ne_of_none hD hp
  have np : p ∉ qs := fun z => by
    have := (hq p z).2
    rw [hp] at this; cases this
  refine ⟨qs.map V.ref, by rw [upd_ne nDp]; exact hD, by rw [List.length_map, sizeLine_eq]; omega, h1, (f.trans (Fe.new hp)).mut h1, qs ++ [p], by rw [List.length_append, List.length_singleton, hl], by rw [upd_same, List.map_append]; rfl, ?_, ?_, ?_⟩
  · rw [List.nodup_append]
    refine ⟨nd, by simp, fun a ha b hb => ?_⟩
    rw [List.mem_singleton.mp hb]
    exact fun z => np (z ▸ ha)
  · rw [List.mem_append, List.mem_singleton]
    exact fun z => z.elim ne nDp
  · intro q z
    rcases List.mem_append.mp z with z | z
    · have a : q ≠ D := fun e => ne (e ▸ z)
      have b : q ≠ p := fun e => np (e ▸ z)
      exact ⟨(hq q z).1, by rw [upd_ne a, upd_ne b]; exact (hq q z).2⟩
    · rw [List.mem_singleton.mp z]
      exact ⟨f.free hp, by rw [upd_ne nDp.symm, upd_same]⟩
theorem MatC.mat {α : Type} {r : Rp α} {H0 H1 H' : Hp} {D : Addr} {n : Nat} (m : MatC H1 D n H') (e : Fe H0 H1) : ∃ qs, Mat r H0 H' D qs (List.replicate n ([] : List α)) := by
  obtain ⟨h1, f, qs, hl, hD, nd, ne, hq⟩ := m
  refine ⟨qs, hD, nd, ne, fun q z => e.free (hq q z).1, e.free h1, by rw [List.length_replicate, hl], fun i q row a b => ⟨[], (hq q (List.mem_of_getElem? a)).2, ?_⟩⟩
  rw [List.getElem?_replicate] at b
  split at b
  · cases b; exact .nil
  · cases b
/-- its turn, as the block asks it -/
theorem MatC.go {H1 H' : Hp} {D : Addr} {i : Nat} {σ2 : L2.St} (m : MatC H1 D i H') (hi : i < 1000000) :
    tYes σ2 H' fun b H3 => if b = true then tLst tNil σ2 H3 fun y H4 => ∃ acc, H4 D = some (.lst acc) ∧ acc.length < sizeLine ∧ MatC H1 D (i + 1) (upd H4 D (.lst (acc ++ [y]))) else MatC H1 D (i + 1) H3 := by
  refine iteT (B := MatC H1 D (i + 1) H') ?_
  exact ⟨Nat.zero_le _, fun p hp => m.turn hi hp⟩

/-! ### comprehensions, what has been made so far -/
/-- D, new since H1, holds the items l -/
structure Cmp {β : Type} (r : Rp β) (H1 : Hp) (D : Addr) (l : List β) (H' : Hp) : Prop where
  new : H1 D = none
  fe : Fe H1 H'
  ex : ∃ acc, H' D = some (.lst acc) ∧ Al r H' acc l
theorem Cmp.start {β : Type} {r : Rp β} {H1 : Hp} {D : Addr} (h : H1 D = none) : Cmp r H1 D [] (upd H1 D (.lst [])) := ⟨h, Fe.new h, [], upd_same, .nil⟩
theorem Cmp.add {β : Type} {r : Rp β} [Mo r] {H1 H' H4 : Hp} {D : Addr} {l : List β} {y : V} {x : β} (c : Cmp r H1 D l H') (hl : l.length < 1000000) (f : Fe H' H4) (h : r H4 y x) :
    ∃ acc, H4 D = some (.lst acc) ∧ acc.length < sizeLine ∧ Cmp r H1 D (l ++ [x]) (upd H4 D (.lst (acc ++ [y]))) := by
  obtain ⟨n, e, acc, hD, ha⟩ := c
  have fD : Fx [D] H4 (upd H4 D (.lst (acc ++ [y]))) := Fx.put (f.k hD) (List.mem_singleton.mpr rfl) (fun _ z => nomatch z)
  exact ⟨acc, f.k hD, by rw [ha.len, sizeLine_eq]; omega, n, (e.trans f).mut n, acc ++ [y], upd_same, Al.snoc (Mo.mo (r := r) fD h) (Al.mo fD (Al.mo f ha))⟩
theorem Cmp.skip {β : Type} {r : Rp β} [Mo r] {H1 H' H4 : Hp} {D : Addr} {l : List β} (c : Cmp r H1 D l H') (f : Fe H' H4) : Cmp r H1 D l H4 := by
  obtain ⟨n, e, acc, hD, ha⟩ := c
  exact ⟨n, e.trans f, acc, f.k hD, Al.mo f ha⟩
theorem Cmp.rl {β : Type} {r : Rp β} {H1 H' : Hp} {D : Addr} {l : List β} (c : Cmp r H1 D l H') : rL r H' (.ref D) l := by
  obtain ⟨n, e, acc, hD, ha⟩ := c
  exact ⟨D, acc, rfl, hD, ha⟩
section
variable {g : TG} {tt : TT} {te : TE} {vs : List Nat} {σ : L2.St} {H1 : Hp} {D : Addr} {Qd : Hp → Prop} {J : It}
/-- the turns of a comprehension whose walk has n items -/
theorem lc_by (n : Nat) (Pv : Nat → Hp → Prop) (h0 : Pv 0 (upd H1 D (.lst []))) (hgo : ∀ i H, i < n → Pv i H → J.go i H) (hstop : ∀ H, Pv n H → J.stop n H)
    (hs : ∀ i x H H', i < n → Pv i H → J.yld i H x H' → g x (wipe σ vs) H' fun σ2 H2 => wipe σ2 vs = wipe σ vs ∧ tt σ2 H2 fun b H3 =>
      if b = true then te σ2 H3 fun y H4 => ∃ acc, H4 D = some (.lst acc) ∧ acc.length < sizeLine ∧ Pv (i + 1) (upd H4 D (.lst (acc ++ [y]))) else Pv (i + 1) H3) (hd : ∀ H, Pv n H → Qd H) :
    ∃ W : Nat → Nat → Hp → Prop, (∃ m, W 0 m (upd H1 D (.lst []))) ∧ ∀ i m H, W i m H →
      (J.stop i H ∧ Qd H) ∨ (J.go i H ∧ ∃ Nx : Hp → Prop, (∀ H', Nx H' → ∃ m', m' < m ∧ W (i + 1) m' H') ∧ ∀ x H', J.yld i H x H' → g x (wipe σ vs) H' fun σ2 H2 => wipe σ2 vs = wipe σ vs ∧ tt σ2 H2 fun b H3 =>
        if b = true then te σ2 H3 fun y H4 => ∃ acc, H4 D = some (.lst acc) ∧ acc.length < sizeLine ∧ Nx (upd H4 D (.lst (acc ++ [y]))) else Nx H3) := by
  refine ⟨fun i m H => i + m = n ∧ Pv i H, ⟨n, by omega, h0⟩, ?_⟩
  rintro i m H ⟨e, h⟩
  by_cases hi : i < n
  · exact .inr ⟨hgo i H hi h, fun H2 => Pv (i + 1) H2, fun H2 q => ⟨m - 1, by omega, by omega, q⟩, fun x H' y => hs i x H H' hi h y⟩
  · have e2 : i = n := by omega
    subst e2
    exact .inl ⟨hstop _ h, hd _ h⟩
end
section
variable {tb : TS} {D : Ends} {σ : L2.St} {H : Hp} {g : TG} {J : It}
/-- .. of a for -/
theorem for_by (n : Nat) (Pv : Nat → L2.St → Hp → Prop) (h0 : Pv 0 σ H) (hgo : ∀ i σ' H', i < n → Pv i σ' H' → J.go i H') (hstop : ∀ σ' H', Pv n σ' H' → J.stop n H')
    (hs : ∀ i x σ' H' H2, i < n → Pv i σ' H' → J.yld i H' x H2 → g x σ' H2 fun σ2 H3 => tb { D with nx := Pv (i + 1), ct := Pv (i + 1), bk := D.nx } σ2 H3) (hd : ∀ σ' H', Pv n σ' H' → D.nx σ' H') :
    ∃ W : Nat → Nat → L2.St → Hp → Prop, (∃ m, W 0 m σ H) ∧ ∀ i m σ H, W i m σ H →
      (J.stop i H ∧ D.nx σ H) ∨ (J.go i H ∧ ∃ N : L2.St → Hp → Prop, (∀ σ' H', N σ' H' → ∃ m', m' < m ∧ W (i + 1) m' σ' H') ∧ ∀ x H', J.yld i H x H' → g x σ H' fun σ2 H2 => tb { D with nx := N, ct := N, bk := D.nx } σ2 H2) := by
  refine ⟨fun i m σ' H' => i + m = n ∧ Pv i σ' H', ⟨n, by omega, h0⟩, ?_⟩
  rintro i m σ' H' ⟨e, h⟩
  by_cases hi : i < n
  · exact .inr ⟨hgo i _ _ hi h, fun σ2 H2 => Pv (i + 1) σ2 H2, fun σ2 H2 q => ⟨m - 1, by omega, by omega, q⟩, fun x H2 y => hs i x σ' H' H2 hi h y⟩
  · have e2 : i = n := by omega
    subst e2
    exact .inl ⟨hstop _ _ h, hd _ _ h⟩
end
/-- zip of two lists that stand: a new pair each turn -/
theorem zip_go {K : PySem.W.Frag} {a b : Addr} {xs ys : List V} {H : Hp} (ha : H a = some (.lst xs)) (hb : H b = some (.lst ys)) {i : Nat} (hx : i < xs.length) (hy : i < ys.length) : (Itz K a b).go i H :=
  ⟨xs, ys, xs[i], ys[i], SqL.of ha, SqL.of hb, List.getElem?_eq_getElem hx, List.getElem?_eq_getElem hy⟩
theorem zip_stop {K : PySem.W.Frag} {a b : Addr} {xs ys : List V} {H : Hp} (ha : H a = some (.lst xs)) (hb : H b = some (.lst ys)) {i : Nat} (hx : xs.length ≤ i) : (Itz K a b).stop i H :=
  ⟨xs, ys, SqL.of ha, SqL.of hb, .inl hx⟩
theorem zip_yld {K : PySem.W.Frag} {a b : Addr} {xs ys : List V} {H H' : Hp} {v : V} (ha : H a = some (.lst xs)) (hb : H b = some (.lst ys)) {i : Nat} (h : (Itz K a b).yld i H v H') :
    ∃ T x y, v = .ref T ∧ H T = none ∧ H' = upd H T (.tup [x, y]) ∧ xs[i]? = some x ∧ ys[i]? = some y := by
  obtain ⟨T, x, y, h1, h2, h3, h4, h5⟩ := h
  exact ⟨T, x, y, h1, h2, h3, h4 _ (SqL.of ha), h5 _ (SqL.of hb)⟩
theorem enum_go {K : PySem.W.Frag} {a : Addr} {xs : List V} {H : Hp} (ha : H a = some (.lst xs)) {i : Nat} (hx : i < xs.length) : (Ite K a).go i H := ⟨xs, xs[i], SqL.of ha, List.getElem?_eq_getElem hx⟩
theorem enum_stop {K : PySem.W.Frag} {a : Addr} {xs : List V} {H : Hp} (ha : H a = some (.lst xs)) {i : Nat} (hx : xs.length ≤ i) : (Ite K a).stop i H := ⟨xs, SqL.of ha, hx⟩
theorem enum_yld {K : PySem.W.Frag} {a : Addr} {xs : List V} {H H' : Hp} {v : V} (ha : H a = some (.lst xs)) {i : Nat} (h : (Ite K a).yld i H v H') :
    ∃ T x, v = .ref T ∧ H T = none ∧ H' = upd H T (.tup [.int (i : Int), x]) ∧ xs[i]? = some x := by
  obtain ⟨T, x, h1, h2, h3, h4⟩ := h
  exact ⟨T, x, h1, h2, h3, h4 _ (SqL.of ha)⟩
end Fm
/-! the layer's rules with the written part by name, so that what they ask does not speak of the block they stand in -/
namespace Fm
open PySem PySem.Spec PyProof.Rows L2
section
variable {X : Cx} {K : PySem.W.Frag} {tg e e2 o value : Expr} {es : List Expr} {te ta tv : TE} {t : TA} {tgs : TGs} {pos p tpos apos cpos : Pos} {f : Str} {k kk n : Nat} {elts : List Expr}
theorem kg_tup (n : Nat) (h : X.K = K) (hc : X.calm = true) (hs : PGs X es tgs) (hn : (assignEach es X.env).length = n := by rfl) (hst : (assignEach es X.env).findIdx? (·.1) = none := by rfl) :
    PG X (.Tuple es k pos) (gTup K n tgs) := by
  subst h
  exact pg_tup hc hs hn hst
theorem ki_list (h : X.K = K) (he : PE X e te) : PI X tg e (iList K te) := by subst h; exact pi_list he
theorem ki_tup (h : X.K = K) (he : PE X e te) : PI X tg e (iTup K te) := by subst h; exact pi_tup he
theorem kx_list (h : X.K = K) : IxR X (rIxL K) := by subst h; exact ix_list
theorem kx_tup (h : X.K = K) : IxR X (rIxT K) := by subst h; exact ix_tup
def rLen (K : PySem.W.Frag) : List V → Hp → VK → Prop := fun xs H Q => ∃ p ys, xs = [.ref p] ∧ (SqL K H p ys ∨ SqT K H p ys) ∧ Q (.int ys.length) H
theorem kc_len (h : X.K = K) : CallR X (.builtin "len") (rLen K) := by subst h; exact call_len_seq
def rLenS : List V → Hp → VK → Prop := fun xs H Q => ∃ z, xs = [.str z] ∧ z.length ≤ sizeLine ∧ Q (.int z.length) H
theorem kc_lenS : CallR X (.builtin "len") rLenS := call_len_str
def rLst (K : PySem.W.Frag) : List V → Hp → VK → Prop := fun xs H Q => ∃ p ys, xs = [.ref p] ∧ (SqL K H p ys ∨ SqT K H p ys) ∧ ∀ l, H l = none → Q (.ref l) (upd H l (.lst ys))
theorem kc_list (h : X.K = K) : CallR X (.type "list") (rLst K) := by subst h; exact call_list_of
def rTpl (K : PySem.W.Frag) : List V → Hp → VK → Prop := fun xs H Q => ∃ p ys, xs = [.ref p] ∧ ((SqL K H p ys ∧ ∀ l, H l = none → Q (.ref l) (upd H l (.tup ys))) ∨ (SqT K H p ys ∧ Q (.ref p) H))
theorem kc_tuple (h : X.K = K) : CallR X (.type "tuple") (rTpl K) := by subst h; exact call_tuple_of
theorem ke_fld (h : X.K = K) (he : PE X e te) (hb : attributeBase e f X.env (eval e X.env) = eval e X.env) : PE X (.Attribute e f pos) (tFld K te f) := by
  subst h; exact pe_fld he hb
theorem ks_fld (h : X.K = K) (ha : PE X o ta) (hv : PE X value tv) (hs : swapsWith value (some (.Attribute o f tpos)) pos.line X.env = pure false) : PS X (.Assign [.Attribute o f tpos] value pos) (sFld K ta tv f) := by
  subst h; exact ps_fld ha hv hs
section
variable {T id : String} {name : Str} {r : V → List V → Hp → VK → Prop} {to : TE}
theorem ke_bm0 (h : X.K = K) (pa : PlainAttrs T) (slot : Slot T name id) (hty : typeOf (.builtin id) = pure (.type "method_descriptor")) (hm : MtR X id r) (ho : PE X o to)
    (hbase : attributeBase o name X.env (eval o X.env) = eval o X.env := by rfl) (hline : (apos.endLine == cpos.line) = true := by rfl) :
    PE X (.Call (.Attribute o name apos) [] [] cpos) (tBM0 K T r to) := by
  subst h; exact pe_bm0 pa slot hty hm ho hbase hline
theorem ke_bm (h : X.K = K) (pa : PlainAttrs T) (slot : Slot T name id) (hty : typeOf (.builtin id) = pure (.type "method_descriptor")) (hm : MtR X id r) (ho : PE X o to) (ha : PA X (e :: es) t)
    (hbase : attributeBase o name X.env (eval o X.env) = eval o X.env := by rfl)
    (hfew : ((backTo cpos (starEach (e :: es) X.env)).all (fun x => !x.1) && (backToKw cpos (keywordEach [] X.env)).all (fun x => x.1.isSome)
      && decide ((e :: es).length + ([] : List Keyword).length + (if ([] : List Keyword).isEmpty then 0 else 1) < 30)) = true := by rfl)
    (hline : (apos.endLine == cpos.line) = true := by rfl) (hs : starEach (e :: es) X.env = (false, eval e X.env) :: starEach es X.env := by rfl)
    (hplain : (backTo cpos (starEach es X.env)).any (·.1) = false := by rfl) :
    PE X (.Call (.Attribute o name apos) (e :: es) [] cpos) (tBM K T r to t) := by
  subst h; exact pe_bm pa slot hty hm ho ha hbase hfew hline hs hplain
end
theorem ko_in (h : X.K = K) : OpR X (compareOp .In) (rIn K false) := by subst h; exact op_in_seq
theorem ko_notIn (h : X.K = K) : OpR X (compareOp .NotIn) (rIn K true) := by subst h; exact op_notIn_seq
theorem kl_list (h : X.K = K) : SlR X (rSlL K) := by subst h; exact sl_list
theorem kl_tup (h : X.K = K) : SlR X (rSlT K) := by subst h; exact sl_tup
theorem ki_enum (h : X.K = K) (hg : Gl X "enumerate") (hm : X.mg "enumerate" = none) (ha : PA X [e] t) (hs : starEach [e] X.env = [(false, eval e X.env)] := by rfl) :
    PI X (.Tuple elts kk tpos) (.Call (.Name "enumerate" p) [e] [] pos) (iEnum K t) := by
  subst h; exact pi_enum hg hm ha hs
theorem ki_zip (h : X.K = K) (hg : Gl X "zip") (hm : X.mg "zip" = none) (ha : PA X [e, e2] t) (hs : starEach [e, e2] X.env = (false, eval e X.env) :: starEach [e2] X.env := by rfl)
    (hpl : (backTo pos (starEach [e2] X.env)).any (·.1) = false := by rfl) : PI X (.Tuple elts kk tpos) (.Call (.Name "zip" p) [e, e2] [] pos) (iZip K t) := by
  subst h; exact pi_zip hg hm ha hs hpl
theorem ki_zipA (h : X.K = K) (hg : Gl X "zip") (hm : X.mg "zip" = none) (ha : PA X [e, e2] t) (hs : starEach [e, e2] X.env = (false, eval e X.env) :: starEach [e2] X.env := by rfl)
    (hpl : (backTo pos (starEach [e2] X.env)).any (·.1) = false := by rfl) : PI X (.Tuple elts kk tpos) (.Call (.Name "zip" p) [e, e2] [] pos) (RZ.iZipA K t) := by
  subst h; exact RZ.pi_zipA hg hm ha hs hpl
theorem ki_rev (h : X.K = K) (hg : Gl X "reversed") (hm : X.mg "reversed" = none) (ha : PA X [e] t) (hs : starEach [e] X.env = [(false, eval e X.env)] := by rfl) :
    PI X tg (.Call (.Name "reversed" p) [e] [] pos) (iRev K t) := by
  subst h; exact pi_reversed hg hm ha hs
def tTruth (K : PySem.W.Frag) (te : TE) : TT := fun σ H Q => te σ H fun x H' => ∃ k, TruV K x H' k ∧ Q k H'
theorem kt_truth (h : X.K = K) (ha : PE X e te) (he : ∀ whole, isTrue e X.env whole = (do let v ← whole; standAt e.pos; holding [v] (truthy v)) := by intro _; rfl) : PT X e (tTruth K te) := by
  subst h; exact pt_truth ha he
theorem kc_min (h : X.K = K) (hc : X.calm = true) : CallR X (.builtin "min") (rMin K) := by subst h; exact cr_min hc
theorem kc_max (h : X.K = K) (hc : X.calm = true) : CallR X (.builtin "max") (rMax K) := by subst h; exact cr_max hc
theorem kc_sum (h : X.K = K) (hc : X.calm = true) : CallR X (.builtin "sum") (rSum K) := by subst h; exact cr_sum hc
theorem kc_sorted (h : X.K = K) : CallR X (.builtin "sorted") (rSorted K) := by subst h; exact cr_sorted
theorem kc_sortedS (h : X.K = K) : CallR X (.builtin "sorted") (rSortedS K) := by subst h; exact cr_sortedS
theorem ko_catT (h : X.K = K) : OpR X (binaryOp .Add) (rCatT K) := by subst h; exact op_catT
theorem ko_eqD (h : X.K = K) (hu : X.A.units + 64 < cLine) : OpR X (compareOp .Eq) (rEqD K) := by subst h; exact op_eqD hu
theorem ko_neD (h : X.K = K) (hu : X.A.units + 64 < cLine) : OpR X (compareOp .NotEq) (rNeD K) := by subst h; exact op_neD hu
theorem ke_rev {k : Nat} {p1 p2 p3 : Pos} (h : X.K = K) (he : PE X e te) : PE X (.Subscript e (.Slice none none (some (.UnaryOp .USub (.Constant (.int 1) k p1) p2)) p3) pos) (tRevL K te) := by
  subst h; exact pe_revL he
theorem kc_isi (h : X.K = K) : CallR X (.builtin "isinstance") (rIsi K) := by subst h; exact call_isi
def rSrtDS : List V → Hp → VK → Prop := fun xs H Q => ∃ (a : Addr) (kvs : List (Key × V)) (ks : List Str), xs = [.ref a] ∧ Rd H a (.dK kvs) ∧ kvs.map (·.1) = ks.map Sum.inr ∧ ks.length < 64 ∧
    ∀ ys p, ys.Perm ks → sortedS ys = true → H p = none → Q (.ref p) (upd H p (.lst (ys.map V.str)))
theorem kc_sortedDS (hc : X.calm = true) : CallR X (.builtin "sorted") rSrtDS := call_sortedD hc
def rKeys : List V → Hp → VK → Prop := fun xs H Q => ∃ (a : Addr) (kvs : List (Key × V)), xs = [.ref a] ∧ Rd H a (.dK kvs) ∧ ∀ p, H p = none → Q (.ref p) (upd H p (.lst (kvs.map fun kv => kV kv.1)))
theorem kc_listD (hc : X.calm = true) : CallR X (.type "list") rKeys := call_listD hc
end
end Fm
/-! dicts that are used as sets: every value True -/
namespace Fm
open PySem L2
section
variable {α : Type} [DecidableEq α]
def ins (a : α) (ks : List α) : List α := if a ∈ ks then ks else ks ++ [a]
theorem mem_ins {a b : α} {ks : List α} : b ∈ ins a ks ↔ b = a ∨ b ∈ ks := by
  unfold ins
  split
  · rename_i h
    exact ⟨.inr, fun z => z.elim (fun e => e ▸ h) id⟩
  · rw [List.mem_append, List.mem_singleton]
    exact ⟨fun z => z.elim .inr .inl, fun z => z.elim .inr .inl⟩
theorem nd_ins {a : α} {ks : List α} (h : ks.Nodup) : (ins a ks).Nodup := by
  unfold ins
  split
  · exact h
  · rename_i hn
    rw [List.nodup_append]
    exact ⟨h, by simp, fun x hx y hy => by rw [List.mem_singleton.mp hy]; exact fun e => hn (e ▸ hx)⟩
theorem len_ins (a : α) (ks : List α) : (ins a ks).length ≤ ks.length + 1 := by
  unfold ins
  split
  · omega
  · rw [List.length_append, List.length_singleton]; omega
variable (f : α → Key)
def tks (ks : List α) : List (Key × V) := ks.map fun a => (f a, V.bl true)
theorem tks_keys (ks : List α) : (tks f ks).map (·.1) = ks.map f := by
  unfold tks
  rw [List.map_map]; rfl
theorem tks_len (ks : List α) : (tks f ks).length = ks.length := List.length_map _
theorem tks_put (hf : ∀ a b, f a = f b → a = b) (a : α) (ks : List α) : putK (tks f ks) (f a) (.bl true) = tks f (ins a ks) := by
  have hany : ((tks f ks).any fun kv => decide (kv.1 = f a)) = true ↔ a ∈ ks := by
    rw [List.any_eq_true]
    constructor
    · rintro ⟨kv, h1, h2⟩
      obtain ⟨b, hb, rfl⟩ := List.mem_map.mp h1
      have := hf _ _ (of_decide_eq_true h2)
      exact this ▸ hb
    · intro h
      exact ⟨(f a, .bl true), List.mem_map.mpr ⟨a, h, rfl⟩, by simp⟩
  unfold putK ins
  by_cases h : a ∈ ks
  · rw [if_pos (hany.mpr h), if_pos h]
    unfold tks
    rw [List.map_map]
    refine List.map_congr_left fun b _ => ?_
    show (if f b = f a then (f b, V.bl true) else (f b, V.bl true)) = _
    split <;> rfl
  · rw [if_neg (fun z => h (hany.mp z)), if_neg h]
    unfold tks
    rw [List.map_append]; rfl
end
def kN (n : Nat) : Key := .inl (n : Int)
def kS (l : List Nat) : Key := .inr ⟨l.toArray⟩
theorem kN_inj (a b : Nat) (h : kN a = kN b) : a = b := by
  have := Sum.inl.inj h
  omega
theorem str_inj {a b : List Nat} (h : (⟨a.toArray⟩ : Str) = ⟨b.toArray⟩) : a = b := by
  have := congrArg Str.cps h
  simpa using this
theorem kS_inj (a b : List Nat) (h : kS a = kS b) : a = b := str_inj (Sum.inr.inj h)
/-- different numbers below N are at most N -/
theorem nodup_below : ∀ (N : Nat) (l : List Nat), l.Nodup → (∀ x ∈ l, x < N) → l.length ≤ N
  | 0, l, _, h => by
    cases l with
    | nil => exact Nat.le_refl _
    | cons x l => exact absurd (h x List.mem_cons_self) (by omega)
  | N + 1, l, hn, h => by
    have h1 : (l.erase N).Nodup := hn.erase N
    have h2 : ∀ x ∈ l.erase N, x < N := fun x hx => by
      have a := h x (List.mem_of_mem_erase hx)
      have b : x ≠ N := fun e => by rw [e] at hx; exact (List.Nodup.not_mem_erase hn) hx
      omega
    have h3 := nodup_below N _ h1 h2
    by_cases hm : N ∈ l
    · have := List.length_erase_of_mem hm
      have : 0 < l.length := List.length_pos_of_mem hm
      omega
    · rw [List.erase_of_not_mem hm] at h3
      omega
def rSrtDI : List V → Hp → VK → Prop := fun xs H Q => ∃ (a : Addr) (kvs : List (Key × V)) (ks : List Int), xs = [.ref a] ∧ Rd H a (.dK kvs) ∧ kvs.map (·.1) = ks.map Sum.inl ∧ ks.length < 64 ∧
    ∀ (ys : List Int) (p : Addr), ys.Perm ks → ys.Pairwise (· ≤ ·) → H p = none → Q (.ref p) (upd H p (.lst (ys.map V.int)))
theorem kc_sortedDI {X : Cx} (hc : X.calm = true) : CallR X (.builtin "sorted") rSrtDI := call_sortedDI hc
/-- whole numbers from naturals, back -/
theorem ints_back {l : List Int} (h : ∀ x ∈ l, 0 ≤ x) : l = (l.map Int.toNat).map fun n : Nat => (n : Int) := by
  rw [List.map_map]
  induction l with
  | nil => rfl
  | cons x l ih =>
    rw [List.map_cons, ← ih fun y hy => h y (List.mem_cons_of_mem _ hy)]
    have := h x List.mem_cons_self
    show x :: l = ((x.toNat : Nat) : Int) :: l
    rw [Int.toNat_of_nonneg this]
theorem perm_nats {ys : List Int} {ks : List Nat} (h : ys.Perm (ks.map fun n : Nat => (n : Int))) : ∃ l : List Nat, ys = l.map (fun n : Nat => (n : Int)) ∧ l.Perm ks := by
  refine ⟨ys.map Int.toNat, ints_back fun x hx => ?_, ?_⟩
  · obtain ⟨n, _, rfl⟩ := List.mem_map.mp (h.mem_iff.mp hx)
    omega
  · have := h.map Int.toNat
    rw [List.map_map] at this
    have e : ks.map (Int.toNat ∘ fun n : Nat => (n : Int)) = ks := by
      conv => rhs; rw [← List.map_id ks]
      exact List.map_congr_left fun n _ => Int.toNat_natCast n
    rw [e] at this
    exact this
/-- the text's own slices -/
theorem cut_from (l : List Nat) (k : Nat) : cutS ⟨l.toArray⟩ (some (k : Int)) none = ⟨(l.drop k).toArray⟩ := by
  unfold cutS
  have hl : (⟨l.toArray⟩ : Str).length = l.length := by show l.toArray.size = _; rw [List.size_toArray]
  rw [hl, HT.sIx_nat]
  show (⟨((l.drop (min k l.length)).take (l.length - min k l.length)).toArray⟩ : Str) = _
  congr 2
  by_cases h : k ≤ l.length
  · rw [Nat.min_eq_left h, List.take_of_length_le (by rw [List.length_drop]; exact Nat.le_refl _)]
  · rw [Nat.min_eq_right (by omega), List.drop_of_length_le (Nat.le_refl _), List.drop_of_length_le (by omega), List.take_nil]
theorem slen (l : List Nat) : (⟨l.toArray⟩ : Str).length = l.length := by show l.toArray.size = _; rw [List.size_toArray]
end Fm
/-! dicts with keys that are tuples of ints and texts: comprehensions, displays -/
namespace Fm
open PySem PySem.Spec PyProof.Rows L2
section
variable {X : Cx} {pins : List (Addr × Obj)} {σ : L2.St} {H : Hp} {s : Shared}
/-- the store of a comprehension, whatever the keys are -/
theorem comp_store {H' : Hp} {d : Addr} {y v : V} {ku vu : Value} {E : Value → Shared → Prop} {Q : Unit → Shared → Prop} (hu : X.A.units < cLine) (I : Inv X pins σ H s) (g : DPut H d y v H') (ry : RelV y ku) (rv : RelV v vu)
    (k : ∀ s', Inv X pins σ H' s' → Q () s') : wpAny (model X.prog X.w) X.A (dictSet d ku vu) Q E s := by
  rcases g with ⟨kvs, q, e, rfl, l, rfl⟩ | ⟨kvs, q, b, e, rfl, eb, l, rfl⟩
  · exact d_dictSet I e l ry rv k
  · cases (show ku = Value.ref b from ry)
    obtain ⟨z, hd, xs, rel, dd⟩ := dt_of I.hok e
    have len := Paired.length rel
    have most : (putK kvs q v).length ≤ sizeLine := Nat.le_trans (length_putK kvs q v) l
    refine wpAny_dictSet_heap (knd := tupleKind (mixKind X.prog X.w)) (hsz := by rw [← len]; exact z) hu (key_of I.hok eb) dd fun h' dd' hs => k _ ?_
    obtain ⟨o, es, ep, a1, a2, a3, a4, _, a6⟩ := dd'
    refine d_write I (by rw [e]; exact True.intro) hs ⟨o, a1⟩ ⟨most, hd, _, (rel.put q eb rv).keeps fun c ys ec => ?_, o, es, ep, a1, a2, a3, a4, a6⟩
    rw [upd_ne (ne_of ec e (fun z => nomatch z))]
    exact ec
end
/-- {key: value for target in iter if ..} from the empty dict o: D the new one -/
def tDcP (o : HO) (wi : TI) (g : TG) (tt : TT) (tk tv : TE) (vs : List Nat) : TE := fun σ H Q => wi σ H fun J H1 => ∀ D, H1 D = none → ∃ W : Nat → Nat → Hp → Prop, (∃ m, W 0 m (upd H1 D o)) ∧ ∀ i m H, W i m H →
  (J.stop i H ∧ Q (.ref D) H) ∨ (J.go i H ∧ ∃ Nx : Hp → Prop, (∀ H', Nx H' → ∃ m', m' < m ∧ W (i + 1) m' H') ∧ ∀ x H', J.yld i H x H' → g x (wipe σ vs) H' fun σ2 H2 => wipe σ2 vs = wipe σ vs ∧ tt σ2 H2 fun b H3 =>
    if b = true then tk σ2 H3 fun y H4 => tv σ2 H4 fun z H5 => ∃ H6, DPut H5 D y z H6 ∧ Nx H6 else Nx H3)
section
variable {X : Cx} {kx vx tg iter : Expr} {ifs : List Expr} {scope : Scope} {own : List (Str × Nat)} {pos : Pos} {wi : TI} {g : TG} {tt : TT} {tk tv : TE} {o : HO}
theorem ke_dc (ho : o = .dK [] ∨ o = .dT []) (hu : X.A.units < cLine) (hc : X.calm = true) (hN : X.N.Nodup) (hi : PI X tg iter wi) (ok : BlkOk X.N X.env.scope scope own)
    (hg : ∀ (s : Shared) (H : Hp) (C : Addr) (cl : List (Str × Addr)) (fp : List Addr), PG (X.blk s H scope (compEnvC scope cl C X.env) fp) tg g)
    (ht : ∀ (s : Shared) (H : Hp) (C : Addr) (cl : List (Str × Addr)) (fp : List Addr), PTs (X.blk s H scope (compEnvC scope cl C X.env) fp) ifs tt)
    (hk : ∀ (s : Shared) (H : Hp) (C : Addr) (cl : List (Str × Addr)) (fp : List Addr), PE (X.blk s H scope (compEnvC scope cl C X.env) fp) kx tk)
    (he : ∀ (s : Shared) (H : Hp) (C : Addr) (cl : List (Str × Addr)) (fp : List Addr), PE (X.blk s H scope (compEnvC scope cl C X.env) fp) vx tv)
    (hs : ∀ x, foldedSetIterable iter X.env x = pure x := by intro _; rfl) :
    PE X (.DictComp kx vx [⟨tg, iter, ifs, 0⟩] scope pos) (tDcP o wi g tt tk tv (own.map (·.2))) := by
  refine ⟨fun pins s σ H Q I h => ?_⟩
  rw [arm_eval_DictComp]
  have captured : ∀ y ∈ scope.names, y.2 = .free → ∃ c, X.env.cells.lookup y.1 = some c := fun y hy e =>
    (ok.free y hy e).elim (fun k => I.ok.has _ (.inl k)) (fun k => I.ok.has _ (.inr k))
  refine wpAny_comprehension_free rfl hs (closure_ok captured) ok.kind (fun y hy e => by rw [ok.uniq y hy, e]) (thn (hi.run pins s σ H _ I h) fun xv s1 hx => thn hx fun itv s2 h2 => ?_)
  obtain ⟨it, fp, tn, J, Ha, e, Ia, Tn, sta, fa, q⟩ := h2
  subst e
  refine wpAny_newObj_type (newEnv_comp ?_)
  generalize eD : s2.heap.objs.size = D
  have freeD : Ha D = none := Ia.hok.fresh (Nat.le_of_eq eD)
  obtain ⟨W, ⟨m0, w0⟩, turns⟩ := q D freeD
  generalize eb : ({ s2 with heap := s2.heap.push { cls := .type "dict", data := .dict #[] } } : Shared) = sb
  have Ib : Inv X pins σ (upd Ha D o) sb := by
    rw [← eb]
    refine Ia.laid (t' := s2.toks) (fun b u e => Heap.get?_push_of_some _ e) (Nat.le_of_eq eD) ?_
    rw [← eD]
    rcases ho with rfl | rfl
    · exact dk_empty s2.heap Ia.big
    · exact dt_empty s2.heap Ia.big
  have hb : sb.heap = s2.heap.push { cls := .type "dict", data := .dict #[] } := by rw [← eb]
  have low : ∀ b ∈ fp, b < s2.heap.objs.size := fun b m => let ⟨_, e, _⟩ := Tn.obj _ _ sta b m; Heap.lt_size e
  have fb : ∀ b ∈ fp, FpOk X pins (upd Ha D o) b ∧ b < sb.heap.objs.size := fun b m => by
    refine ⟨⟨?_, (fa b m).2⟩, by rw [hb, Heap.size_push]; exact Nat.lt_succ_of_lt (low b m)⟩
    rw [upd_ne (by rw [← eD]; exact Nat.ne_of_lt (low b m))]
    exact (fa b m).1
  have stb : tn 0 sb.heap := Tn.keep _ _ _ sta fun b _ u e => by rw [hb]; exact Heap.get?_push_of_some _ e
  have Ic := block_start Ib ok hN fb
  have rg := hg sb (upd Ha D o) sb.heap.objs.size (cellsFrom (sb.heap.objs.size + 1) scope.names (cloFrom X.env.cells scope.names [])) fp
  have rt := ht sb (upd Ha D o) sb.heap.objs.size (cellsFrom (sb.heap.objs.size + 1) scope.names (cloFrom X.env.cells scope.names [])) fp
  have rk := hk sb (upd Ha D o) sb.heap.objs.size (cellsFrom (sb.heap.objs.size + 1) scope.names (cloFrom X.env.cells scope.names [])) fp
  have rv := he sb (upd Ha D o) sb.heap.objs.size (cellsFrom (sb.heap.objs.size + 1) scope.names (cloFrom X.env.cells scope.names [])) fp
  have apart : ∀ b ∈ fp, (upd Ha D o) b = none := fun b m => (fb b m).1.1
  show codeAny _ _ (.compStart (.DictComp kx vx [⟨tg, iter, ifs, 0⟩] scope pos) 0 (.ref it) (.ref D) (compEnvC scope (cellsFrom (sb.heap.objs.size + 1) scope.names (cloFrom X.env.cells scope.names [])) sb.heap.objs.size X.env)) _ { sb with heap := pushCells (sb.heap.push { cls := .type "dict", data := .dict #[] }) scope.names }
  generalize ece : compEnvC scope (cellsFrom (sb.heap.objs.size + 1) scope.names (cloFrom X.env.cells scope.names [])) sb.heap.objs.size X.env = ce at Ic rg rt rk rv ⊢
  have loc : ce.locals = sb.heap.objs.size := by subst ece; rfl
  generalize eHb : upd Ha D o = Hb at Ib Ic rg rt rk rv w0 apart fb
  generalize ec : ({ sb with heap := pushCells (sb.heap.push { cls := .type "dict", data := .dict #[] }) scope.names } : Shared) = sc at Ic ⊢
  have stc : tn 0 sc.heap := Tn.keep _ _ _ stb fun b _ u e => by rw [← ec]; exact pushCells_keeps _ _ _ _ (Heap.get?_push_of_some _ e)
  have inside : ∀ {σ' : L2.St} {H' : Hp} {s' : Shared}, Inv (X.blk sb Hb scope ce fp) [] σ' H' s' → (∀ b ∈ fp, H' b = none) → ∀ b ∈ fp, FpOk (X.blk sb Hb scope ce fp) [] H' b := fun I' n b m =>
    ⟨n b m, (I'.ok.exf b m).1, I'.ok.exfs b m, .inl m, fun x c e => (I'.ok.exf b m).2 x c e, fun p hp => absurd (show p ∈ ([] : List (Addr × Obj)) ++ [] from hp) (by simp)⟩
  refine (fun loop => codeAny_compStart_dict loop (Tn.self X.A 0 _ _ _ stc loop)) ?_
  refine compLoop_anyD (fun n s' => ∃ i H', Inv (X.blk sb Hb scope ce fp) [] (wipe σ (own.map (·.2))) H' s' ∧ tn i s'.heap ∧ (∀ b ∈ fp, H' b = none) ∧ W i n H') ?_ m0 ⟨0, Hb, Ic, stc, apart, w0⟩
  rintro n sd ⟨i, Hd, Id, std, nd, wd⟩
  rcases turns i n Hd wd with ⟨stop, qq⟩ | ⟨go, Nx, later, step⟩
  · refine thnF (Tn.done (X.blk sb Hb scope ce fp) rfl rfl rfl hc i [] sd _ Hd (fun _ _ => False) Id (inside Id nd) std stop) fun r se ⟨hr, Ie⟩ => ?_
    subst hr
    have If : Inv X pins σ Hd se := Ib.call' (ch := fp) Ie.os Ie.base Ie.hok Ie.bare fun b m => ⟨(fb b m).1.2.2.2.1, (fb b m).1.2.1, (fb b m).1.2.2.2.2.1, (fb b m).1.2.2.2.2.2⟩
    have nC : Hd sb.heap.objs.size = none := by rw [← loc]; exact Ie.free
    obtain ⟨mm, hn, _⟩ := Ie.loc
    have hn : se.heap.Ns ce.locals mm := hn
    rw [loc] at hn
    refine ⟨mm, hn, fun h'' sb' => ?_⟩
    obtain ⟨f0, f1, f2, f3, f4, f5⟩ := Ib.fpOk (Nat.le_refl _) nC
    exact ⟨.ref D, Hd, If.turned (t' := se.toks) (fun b u hb' e => (sb'.2 b hb').trans e) f0 f1 f3 f4 f5, rfl, qq⟩
  · refine thnF (Tn.item (X.blk sb Hb scope ce fp) rfl rfl rfl hc i [] sd _ Hd (fun _ _ => False) Id (inside Id nd) std go) fun r se ⟨u, hr, hh⟩ => ?_
    subst hr
    refine thnF hh fun _ sf ⟨x, Hf, If, rf, yf, stf, nf⟩ => ?_
    have Ip := If.pinned (inside If nf) (Tn.obj _ _ stf)
    refine thnF (rg.run _ sf _ Hf x u _ Ip rf (step x Hf yf)) fun _ sg ⟨σg, Hg, Ig, wg, qg⟩ => ?_
    refine thnF (rt.run _ sg σg Hg _ Ig qg) fun b sh ⟨Hh, Ih, qh⟩ => ?_
    have close : ∀ {s' : Shared} {H' : Hp}, Inv (X.blk sb Hb scope ce fp) ([] ++ pinsAt fp sf.heap) σg H' s' → Nx H' → ∃ m, m < n ∧ ∃ i H', Inv (X.blk sb Hb scope ce fp) [] (wipe σ (own.map (·.2))) H' s' ∧ tn i s'.heap ∧ (∀ b ∈ fp, H' b = none) ∧ W i m H' := fun {s' H'} I' nx => by
      obtain ⟨m', less, w'⟩ := later H' nx
      have pinned : ∀ b ∈ fp, ∀ u, sf.heap.get? b = some u → s'.heap.get? b = some u ∧ H' b = none := fun b m u e =>
        let z := I'.pin (b, u) (List.mem_append_right _ (List.mem_append_right _ (mem_pinsAt m e)))
        ⟨z.1, z.2.1⟩
      refine ⟨m', less, i + 1, H', (I'.unpinned (pins := [])).weak (by rw [← wg, wipe_length]) (fun j v e => ?_), Tn.keep _ _ _ stf fun b m u e => (pinned b m u e).1, fun b m => ?_, w'⟩
      · rw [← wg] at e
        exact (wipe_some e).1
      · obtain ⟨u, e, _⟩ := Tn.obj _ _ stf b m
        exact (pinned b m u e).2
    cases b with
    | false =>
      simp only [Bool.false_eq_true, if_false] at qh ⊢
      exact close Ih qh
    | true =>
      simp only [if_true] at qh ⊢
      refine thnF (rk.run _ sh σg Hh _ Ih qh) fun z si ⟨yk, Hi, Ii, ri, qi⟩ => ?_
      refine thnF (rv.run _ si σg Hi _ Ii qi) fun z2 sj ⟨yv, Hj, Ij, rj, H6, put, nx⟩ => ?_
      exact comp_store (X := X.blk sb Hb scope ce fp) hu Ij put ri rj fun s' I' => close I' nx
end
/-! ### displays -/
section
variable {κ : Type} [DecidableEq κ]
def mergeT (kvs more : List (κ × V)) : List (κ × V) := more.foldl (fun acc kv => putK acc kv.1 kv.2) kvs
end
/-- {(..): v, ..}: the pairs made from the left, the new dict empty meanwhile -/
def tDispT (trs : List (TE × TE)) : TE := fun σ H Q => ∀ p, H p = none → tPairs trs σ (upd H p (.dT [])) fun ps H2 => H2 p = some (.dT []) ∧ ∃ kas : List (List Key × Addr × V),
  ps = kas.map (fun t => (V.ref t.2.1, t.2.2)) ∧ (∀ t ∈ kas, H2 t.2.1 = some (.tup (t.1.map kV))) ∧ kas.length ≤ 15 ∧ Q (.ref p) (upd H2 p (.dT (mergeT [] (kas.map fun t => (t.1, t.2.2)))))
theorem carriesT {P : Program} {w : World} {H : Hp} {h : Heap} (ok : HOk P w H h) : ∀ {kas : List (List Key × Addr × V)} {ws : List (Value × Value)}, (∀ t ∈ kas, H t.2.1 = some (.tup (t.1.map kV))) → VV (kas.map fun t => (V.ref t.2.1, t.2.2)) ws →
    ∃ rs : List (List Key × Addr × Value), CarriesH (tupleKind (mixKind P w)) h ws rs ∧ Paired (fun (t : List Key × Addr × V) (r : List Key × Addr × Value) => t.1 = r.1 ∧ t.2.1 = r.2.1 ∧ RelV t.2.2 r.2.2) kas rs
  | [], _, _, .nil => ⟨[], True.intro, .nil⟩
  | t :: kas, _, hk, .cons (l₂ := ws) (b := b) q r => by
    obtain ⟨rs, a, c⟩ := carriesT ok (fun t m => hk t (List.mem_cons_of_mem _ m)) r
    obtain ⟨b1, b2⟩ := b
    have e : b1 = Value.ref t.2.1 := q.1
    subst e
    exact ⟨(t.1, t.2.1, b2) :: rs, ⟨rfl, rfl, key_of ok (hk t List.mem_cons_self), a⟩, .cons ⟨rfl, rfl, q.2⟩ c⟩
theorem merge_kt {H : Hp} : ∀ {kas : List (List Key × Addr × V)} {rs : List (List Key × Addr × Value)} {kvs : List (List Key × V)} {xs : List (List Key × Addr × Value)}, (∀ t ∈ kas, H t.2.1 = some (.tup (t.1.map kV))) →
    Paired (fun (t : List Key × Addr × V) (r : List Key × Addr × Value) => t.1 = r.1 ∧ t.2.1 = r.2.1 ∧ RelV t.2.2 r.2.2) kas rs → KT H kvs xs → KT H (mergeT kvs (kas.map fun t => (t.1, t.2.2))) (storedAllH xs rs)
  | [], _, _, _, _, .nil, h => h
  | t :: kas, _, _, _, hk, .cons (b := b) (l₂ := rs') q r, h => by
    obtain ⟨b1, b2, b3⟩ := b
    obtain ⟨e1, e2, e3⟩ := q
    cases e1; cases e2
    exact merge_kt (kas := kas) (rs := rs') (fun t m => hk t (List.mem_cons_of_mem _ m)) r (h.put t.1 (hk t List.mem_cons_self) e3)
theorem mergeT_len {κ : Type} [DecidableEq κ] : ∀ (more kvs : List (κ × V)), (mergeT kvs more).length ≤ kvs.length + more.length
  | [], kvs => Nat.le_refl _
  | p :: more, kvs => by
    have a := mergeT_len more (putK kvs p.1 p.2)
    have b := length_putK kvs p.1 p.2
    show (mergeT (putK kvs p.1 p.2) more).length ≤ _
    rw [List.length_cons]
    omega
theorem ke_dispT {X : Cx} {pos : Pos} {keys : List (Option Expr)} {values : List Expr} {trs : List (TE × TE)} (hu : X.A.units < cLine) (h : PPs X pos keys values trs) (hall : keys.all (·.isSome) = true) (hl : keys.length = values.length) (h0 : keys ≠ [])
    (h15 : keys.length ≤ 15) : PE X (.Dict keys values pos) (tDispT trs) := by
  refine ⟨fun pins s σ H Q I q => ?_⟩
  have many := pairTrees_length keys values X.env pos hall hl
  have some1 : pairTrees keys values X.env pos ≠ [] := fun z => by
    rw [z] at many
    exact h0 (List.length_eq_zero_iff.mp many.symm)
  have fresh := I.hok.fresh (Nat.le_refl s.heap.objs.size)
  have I1 := I.laid (a := s.heap.objs.size) (o := .dT []) (h' := s.heap.push { cls := .type "dict", data := .dict #[] }) (t' := s.toks) (fun _ _ z => Heap.get?_push_of_some _ z) (Nat.le_refl _) (dt_empty s.heap I.big)
  rw [arm_eval_Dict, zip_pairTrees keys values X.env pos hall hl, dictDisplay_pairs (pairTrees keys values X.env pos) some1 (by rw [many]; omega)]
  refine wpAny_bind (wpAny_standAt (wpAny_bind (wpAny_subDictH (knd := tupleKind (mixKind X.prog X.w)) (Q := fun d s' => wpAny (model X.prog X.w) X.A (pure (Value.ref d)) _ _ s') hu (by rw [many]; exact h15) ?_)))
  refine thn (h.run pins _ σ _ _ I1 (q _ fresh)) fun ws s2 ⟨ps, H2, I2, rel, e, kas, ep, hk, lk, q2⟩ => ?_
  subst ep
  obtain ⟨rs, c, rk⟩ := carriesT I2.hok hk rel
  obtain ⟨z, hd, xs0, r0, dd⟩ := dt_of I2.hok e
  cases r0
  refine ⟨rs, c, dd, fun h' tk dd' hs => wpAny_pure ⟨.ref s.heap.objs.size, _, ?_, rfl, q2⟩⟩
  have lz : (mergeT [] (kas.map fun t => (t.1, t.2.2))).length ≤ sizeLine := by
    have a := mergeT_len (kas.map fun t => (t.1, t.2.2)) []
    rw [List.length_map, List.length_nil] at a
    rw [sizeLine_eq]; omega
  obtain ⟨o, es, epo, a1, a2, a3, a4, _, a6⟩ := dd'
  refine d_write I2 (by rw [e]; exact True.intro) hs ⟨o, a1⟩ ⟨lz, hd, _, (merge_kt hk rk .nil).keeps fun b ys eb => ?_, o, es, epo, a1, a2, a3, a4, a6⟩
  rw [upd_ne (ne_of eb e (fun z => nomatch z))]
  exact eb
end Fm
/-! the text by places, and what the top leaves of it -/
namespace Fm
open PySem L2
def top (i : Nat) : Stmt := PySem.Challenge.pw_fewmends_k77_whole_finding.main.body.getD i (.Pass ⟨0, 0, 0, 0⟩)
abbrev s_steps_by_state : Stmt := top 2
abbrev N_steps_by_state : List Str := ["machine", "rows", "begin", "letter", "to", "_"]
abbrev P_steps_by_state : List Str := ["machine"]
theorem sc_steps_by_state : FnScope N_steps_by_state P_steps_by_state (defScope s_steps_by_state) := ⟨rfl, rfl, rfl, by decide +kernel, rfl, by decide +kernel, by decide +kernel⟩
abbrev s_states_behind : Stmt := top 3
abbrev N_states_behind : List Str := ["rows", "states", "letter", "found", "state", "sign", "to"]
abbrev P_states_behind : List Str := ["rows", "states", "letter"]
theorem sc_states_behind : FnScope N_states_behind P_states_behind (defScope s_states_behind) := ⟨rfl, rfl, rfl, by decide +kernel, rfl, by decide +kernel, by decide +kernel⟩
abbrev s_states_along : Stmt := top 4
abbrev N_states_along : List Str := ["rows", "states", "text", "letter"]
abbrev P_states_along : List Str := ["rows", "states", "text"]
theorem sc_states_along : FnScope N_states_along P_states_along (defScope s_states_along) := ⟨rfl, rfl, rfl, by decide +kernel, rfl, by decide +kernel, by decide +kernel⟩
abbrev s_rests_of : Stmt := top 6
abbrev N_rests_of : List Str := ["book", "found", "read", "_", "at"]
abbrev P_rests_of : List Str := ["book"]
theorem sc_rests_of : FnScope N_rests_of P_rests_of (defScope s_rests_of) := ⟨rfl, rfl, rfl, by decide +kernel, rfl, by decide +kernel, by decide +kernel⟩
abbrev s_MoveWeb_init : Stmt := inClass (top 7) 0
abbrev N_MoveWeb_init : List Str := ["self", "book", "machine", "rests", "state", "rest", "home", "standing", "_", "letter"]
abbrev P_MoveWeb_init : List Str := ["self", "book", "machine"]
theorem sc_MoveWeb_init : FnScope N_MoveWeb_init P_MoveWeb_init (defScope s_MoveWeb_init) := ⟨rfl, rfl, rfl, by decide +kernel, rfl, by decide +kernel, by decide +kernel⟩
abbrev s_MoveWeb_put_moves : Stmt := inClass (top 7) 1
abbrev N_MoveWeb_put_moves : List Str := ["self", "rows", "home", "state", "rest", "letter", "to"]
abbrev P_MoveWeb_put_moves : List Str := ["self", "rows"]
theorem sc_MoveWeb_put_moves : FnScope N_MoveWeb_put_moves P_MoveWeb_put_moves (defScope s_MoveWeb_put_moves) := ⟨rfl, rfl, rfl, by decide +kernel, rfl, by decide +kernel, by decide +kernel⟩
abbrev s_MoveWeb_put_edits : Stmt := inClass (top 7) 2
abbrev N_MoveWeb_put_edits : List Str := ["self", "rows", "home", "state", "read", "write", "cost", "to"]
abbrev P_MoveWeb_put_edits : List Str := ["self", "rows", "home", "state"]
theorem sc_MoveWeb_put_edits : FnScope N_MoveWeb_put_edits P_MoveWeb_put_edits (defScope s_MoveWeb_put_edits) := ⟨rfl, rfl, rfl, by decide +kernel, rfl, by decide +kernel, by decide +kernel⟩
abbrev s_MoveWeb_is_end : Stmt := inClass (top 7) 3
abbrev N_MoveWeb_is_end : List Str := ["self", "home", "state", "rest"]
abbrev P_MoveWeb_is_end : List Str := ["self", "home"]
theorem sc_MoveWeb_is_end : FnScope N_MoveWeb_is_end P_MoveWeb_is_end (defScope s_MoveWeb_is_end) := ⟨rfl, rfl, rfl, by decide +kernel, rfl, by decide +kernel, by decide +kernel⟩
abbrev s_MoveWeb_ends : Stmt := inClass (top 7) 4
abbrev N_MoveWeb_ends : List Str := ["self", "home"]
abbrev P_MoveWeb_ends : List Str := ["self"]
theorem sc_MoveWeb_ends : FnScope N_MoveWeb_ends P_MoveWeb_ends (defScope s_MoveWeb_ends) := ⟨rfl, rfl, rfl, by decide +kernel, rfl, by decide +kernel, by decide +kernel⟩
abbrev s_MoveWeb_closed : Stmt := inClass (top 7) 5
abbrev N_MoveWeb_closed : List Str := ["self", "row", "told", "fresh", "further", "home", "to", "cost", "_"]
abbrev P_MoveWeb_closed : List Str := ["self", "row"]
theorem sc_MoveWeb_closed : FnScope N_MoveWeb_closed P_MoveWeb_closed (defScope s_MoveWeb_closed) := ⟨rfl, rfl, rfl, by decide +kernel, rfl, by decide +kernel, by decide +kernel⟩
abbrev s_MoveWeb_behind : Stmt := inClass (top 7) 7
abbrev N_MoveWeb_behind : List Str := ["self", "row", "letter", "told", "home", "cost", "to", "more", "_"]
abbrev P_MoveWeb_behind : List Str := ["self", "row", "letter"]
theorem sc_MoveWeb_behind : FnScope N_MoveWeb_behind P_MoveWeb_behind (defScope s_MoveWeb_behind) := ⟨rfl, rfl, rfl, by decide +kernel, rfl, by decide +kernel, by decide +kernel⟩
abbrev s_better : Stmt := top 9
abbrev N_better : List Str := ["one", "other"]
abbrev P_better : List Str := ["one", "other"]
theorem sc_better : FnScope N_better P_better (defScope s_better) := ⟨rfl, rfl, rfl, by decide +kernel, rfl, by decide +kernel, by decide +kernel⟩
abbrev s_closed_pairs : Stmt := top 10
abbrev N_closed_pairs : List Str := ["web", "row", "told", "fresh", "further", "home", "to", "cost", "_", "pair"]
abbrev P_closed_pairs : List Str := ["web", "row"]
theorem sc_closed_pairs : FnScope N_closed_pairs P_closed_pairs (defScope s_closed_pairs) := ⟨rfl, rfl, rfl, by decide +kernel, rfl, by decide +kernel, by decide +kernel⟩
abbrev s_pairs_behind : Stmt := top 11
abbrev N_pairs_behind : List Str := ["web", "row", "letter", "told", "home", "pair", "to", "cost", "_"]
abbrev P_pairs_behind : List Str := ["web", "row", "letter"]
theorem sc_pairs_behind : FnScope N_pairs_behind P_pairs_behind (defScope s_pairs_behind) := ⟨rfl, rfl, rfl, by decide +kernel, rfl, by decide +kernel, by decide +kernel⟩
abbrev s_found_pieces : Stmt := top 12
abbrev N_found_pieces : List Str := ["book", "machine", "text", "cap", "web", "start", "row", "told", "place", "pairs", "cost", "begin", "home"]
abbrev P_found_pieces : List Str := ["book", "machine", "text", "cap"]
theorem sc_found_pieces : FnScope N_found_pieces P_found_pieces (defScope s_found_pieces) := ⟨rfl, rfl, rfl, by decide +kernel, rfl, by decide +kernel, by decide +kernel⟩
abbrev s_best_piece : Stmt := top 13
abbrev N_best_piece : List Str := ["book", "machine", "text", "told", "cost", "_", "begin", "end"]
abbrev P_best_piece : List Str := ["book", "machine", "text"]
theorem sc_best_piece : FnScope N_best_piece P_best_piece (defScope s_best_piece) := ⟨rfl, rfl, rfl, by decide +kernel, rfl, by decide +kernel, by decide +kernel⟩
abbrev s_law_pool : Stmt := top 15
abbrev N_law_pool : List Str := ["script", "most", "state", "great", "cell"]
abbrev P_law_pool : List Str := ["script"]
theorem sc_law_pool : FnScope N_law_pool P_law_pool (defScope s_law_pool) := ⟨rfl, rfl, rfl, by decide +kernel, rfl, by decide +kernel, by decide +kernel⟩
abbrev s_law_draw : Stmt := top 16
abbrev N_law_draw : List Str := ["pool", "many", "great", "cell", "state"]
abbrev P_law_draw : List Str := ["pool", "many"]
theorem sc_law_draw : FnScope N_law_draw P_law_draw (defScope s_law_draw) := ⟨rfl, rfl, rfl, by decide +kernel, rfl, by decide +kernel, by decide +kernel⟩
abbrev s_law_letters : Stmt := top 17
abbrev N_law_letters : List Str := ["pool", "most", "left", "found", "k"]
abbrev P_law_letters : List Str := ["pool", "most"]
theorem sc_law_letters : FnScope N_law_letters P_law_letters (defScope s_law_letters) := ⟨rfl, rfl, rfl, by decide +kernel, rfl, by decide +kernel, by decide +kernel⟩
abbrev s_law_text : Stmt := top 18
abbrev N_law_text : List Str := ["pool", "letters", "most", "text", "k"]
abbrev P_law_text : List Str := ["pool", "letters", "most"]
theorem sc_law_text : FnScope N_law_text P_law_text (defScope s_law_text) := ⟨rfl, rfl, rfl, by decide +kernel, rfl, by decide +kernel, by decide +kernel⟩
abbrev s_law_book : Stmt := top 19
abbrev N_law_book : List Str := ["pool", "letters", "most", "found", "dear", "x", "y", "k", "read", "write", "key"]
abbrev P_law_book : List Str := ["pool", "letters", "most"]
theorem sc_law_book : FnScope N_law_book P_law_book (defScope s_law_book) := ⟨rfl, rfl, rfl, by decide +kernel, rfl, by decide +kernel, by decide +kernel⟩
abbrev s_law_machine : Stmt := top 20
abbrev N_law_machine : List Str := ["pool", "letters", "most", "states", "steps", "k", "ends", "q"]
abbrev P_law_machine : List Str := ["pool", "letters", "most"]
theorem sc_law_machine : FnScope N_law_machine P_law_machine (defScope s_law_machine) := ⟨rfl, rfl, rfl, by decide +kernel, rfl, by decide +kernel, by decide +kernel⟩
abbrev s_law_house : Stmt := top 21
abbrev N_law_house : List Str := ["pool", "a", "b", "kind", "rows", "states", "ends", "steps", "numbers", "left", "moved", "p", "x", "q"]
abbrev P_law_house : List Str := ["pool", "a", "b"]
theorem sc_law_house : FnScope N_law_house P_law_house (defScope s_law_house) := ⟨rfl, rfl, rfl, by decide +kernel, rfl, by decide +kernel, by decide +kernel⟩
abbrev s_law_full : Stmt := top 22
abbrev N_law_full : List Str := ["pool", "a", "b", "c", "d", "found", "read", "write", "key"]
abbrev P_law_full : List Str := ["pool", "a", "b"]
theorem sc_law_full : FnScope N_law_full P_law_full (defScope s_law_full) := ⟨rfl, rfl, rfl, by decide +kernel, rfl, by decide +kernel, by decide +kernel⟩
abbrev s_law_pair : Stmt := top 23
abbrev N_law_pair : List Str := ["pool", "first", "other"]
abbrev P_law_pair : List Str := ["pool"]
theorem sc_law_pair : FnScope N_law_pair P_law_pair (defScope s_law_pair) := ⟨rfl, rfl, rfl, by decide +kernel, rfl, by decide +kernel, by decide +kernel⟩
abbrev s_law_ops : Stmt := top 24
abbrev N_law_ops : List Str := ["book", "machine", "states", "ends", "steps", "rows", "read", "write", "cost", "table", "q", "heads", "x", "step"]
abbrev P_law_ops : List Str := ["book", "machine"]
theorem sc_law_ops : FnScope N_law_ops P_law_ops (defScope s_law_ops) := ⟨rfl, rfl, rfl, by decide +kernel, rfl, by decide +kernel, by decide +kernel⟩
abbrev s_law_ahead : Stmt := top 25
abbrev N_law_ahead : List Str := ["ops", "many", "text", "begin", "rows", "place", "row", "again", "read", "write", "cost", "table", "q", "p", "there"]
abbrev P_law_ahead : List Str := ["ops", "many", "text", "begin"]
theorem sc_law_ahead : FnScope N_law_ahead P_law_ahead (defScope s_law_ahead) := ⟨rfl, rfl, rfl, by decide +kernel, rfl, by decide +kernel, by decide +kernel⟩
abbrev s_law_same : Stmt := top 26
abbrev N_law_same : List Str := ["told", "due", "one", "other"]
abbrev P_law_same : List Str := ["told", "due"]
theorem sc_law_same : FnScope N_law_same P_law_same (defScope s_law_same) := ⟨rfl, rfl, rfl, by decide +kernel, rfl, by decide +kernel, by decide +kernel⟩
abbrev s_law_pieces : Stmt := top 27
abbrev N_law_pieces : List Str := ["book", "machine", "text", "ops", "best", "begin", "rows", "end", "costs", "q"]
abbrev P_law_pieces : List Str := ["book", "machine", "text"]
theorem sc_law_pieces : FnScope N_law_pieces P_law_pieces (defScope s_law_pieces) := ⟨rfl, rfl, rfl, by decide +kernel, rfl, by decide +kernel, by decide +kernel⟩
abbrev s_law_asked : Stmt := top 28
abbrev N_law_asked : List Str := ["pool", "book", "machine", "text", "pieces", "cap", "due", "best", "piece", "begin", "end", "cost"]
abbrev P_law_asked : List Str := ["pool", "book", "machine", "text"]
theorem sc_law_asked : FnScope N_law_asked P_law_asked (defScope s_law_asked) := ⟨rfl, rfl, rfl, by decide +kernel, rfl, by decide +kernel, by decide +kernel⟩
abbrev s_law_made : Stmt := top 29
abbrev N_law_made : List Str := ["pool", "a", "b", "word", "book", "gap", "text", "due", "none"]
abbrev P_law_made : List Str := ["pool"]
theorem sc_law_made : FnScope N_law_made P_law_made (defScope s_law_made) := ⟨rfl, rfl, rfl, by decide +kernel, rfl, by decide +kernel, by decide +kernel⟩
abbrev s_law : Stmt := top 30
abbrev N_law : List Str := ["script", "pool", "lap", "a", "b", "letters", "text", "most", "book", "word"]
abbrev P_law : List Str := ["script"]
theorem sc_law : FnScope N_law P_law (defScope s_law) := ⟨rfl, rfl, rfl, by decide +kernel, rfl, by decide +kernel, by decide +kernel⟩
structure Txt (K : PySem.W.Frag) (g : Str → Option Value) where
  z_len : g "len" = none
  z_range : g "range" = none
  z_enumerate : g "enumerate" = none
  z_zip : g "zip" = none
  z_list : g "list" = none
  z_tuple : g "tuple" = none
  z_sorted : g "sorted" = none
  z_min : g "min" = none
  z_set : g "set" = none
  z_int : g "int" = none
  z_str : g "str" = none
  z_isinstance : g "isinstance" = none
  z_bool : g "bool" = none
  c_MoveWeb : Addr
  cl_MoveWeb : Cls K c_MoveWeb
  mg_MoveWeb : g "MoveWeb" = some (.ref c_MoveWeb)
  na_MoveWeb_book : NoAttr K c_MoveWeb "book"
  na_MoveWeb_machine : NoAttr K c_MoveWeb "machine"
  na_MoveWeb_standings : NoAttr K c_MoveWeb "standings"
  na_MoveWeb_homes : NoAttr K c_MoveWeb "homes"
  na_MoveWeb_silent : NoAttr K c_MoveWeb "silent"
  na_MoveWeb_reading : NoAttr K c_MoveWeb "reading"
  d_steps_by_state : Def K g "steps_by_state" "steps_by_state" s_steps_by_state P_steps_by_state
  d_states_behind : Def K g "states_behind" "states_behind" s_states_behind P_states_behind
  d_states_along : Def K g "states_along" "states_along" s_states_along P_states_along
  d_rests_of : Def K g "rests_of" "rests_of" s_rests_of P_rests_of
  d_MoveWeb_init : DefM K c_MoveWeb "__init__" "MoveWeb.__init__" s_MoveWeb_init P_MoveWeb_init
  mk_MoveWeb : Mk K c_MoveWeb d_MoveWeb_init.f
  d_MoveWeb_put_moves : DefM K c_MoveWeb "put_moves" "MoveWeb.put_moves" s_MoveWeb_put_moves P_MoveWeb_put_moves
  d_MoveWeb_put_edits : DefM K c_MoveWeb "put_edits" "MoveWeb.put_edits" s_MoveWeb_put_edits P_MoveWeb_put_edits
  d_MoveWeb_is_end : DefM K c_MoveWeb "is_end" "MoveWeb.is_end" s_MoveWeb_is_end P_MoveWeb_is_end
  d_MoveWeb_ends : DefM K c_MoveWeb "ends" "MoveWeb.ends" s_MoveWeb_ends P_MoveWeb_ends
  d_MoveWeb_closed : DefM K c_MoveWeb "closed" "MoveWeb.closed" s_MoveWeb_closed P_MoveWeb_closed
  d_MoveWeb_behind : DefM K c_MoveWeb "behind" "MoveWeb.behind" s_MoveWeb_behind P_MoveWeb_behind
  d_better : Def K g "better" "better" s_better P_better
  d_closed_pairs : Def K g "closed_pairs" "closed_pairs" s_closed_pairs P_closed_pairs
  d_pairs_behind : Def K g "pairs_behind" "pairs_behind" s_pairs_behind P_pairs_behind
  d_found_pieces : Def K g "found_pieces" "found_pieces" s_found_pieces P_found_pieces
  d_best_piece : Def K g "best_piece" "best_piece" s_best_piece P_best_piece
  d_law_pool : Def K g "_law_pool" "_law_pool" s_law_pool P_law_pool
  d_law_draw : Def K g "_law_draw" "_law_draw" s_law_draw P_law_draw
  d_law_letters : Def K g "_law_letters" "_law_letters" s_law_letters P_law_letters
  d_law_text : Def K g "_law_text" "_law_text" s_law_text P_law_text
  d_law_book : Def K g "_law_book" "_law_book" s_law_book P_law_book
  d_law_machine : Def K g "_law_machine" "_law_machine" s_law_machine P_law_machine
  d_law_house : Def K g "_law_house" "_law_house" s_law_house P_law_house
  d_law_full : Def K g "_law_full" "_law_full" s_law_full P_law_full
  d_law_pair : Def K g "_law_pair" "_law_pair" s_law_pair P_law_pair
  d_law_ops : Def K g "_law_ops" "_law_ops" s_law_ops P_law_ops
  d_law_ahead : Def K g "_law_ahead" "_law_ahead" s_law_ahead P_law_ahead
  d_law_same : Def K g "_law_same" "_law_same" s_law_same P_law_same
  d_law_pieces : Def K g "_law_pieces" "_law_pieces" s_law_pieces P_law_pieces
  d_law_asked : Def K g "_law_asked" "_law_asked" s_law_asked P_law_asked
  d_law_made : Def K g "_law_made" "_law_made" s_law_made P_law_made
  d_law : Def K g "law" "law" s_law P_law

end Fm
namespace Fm
open PySem L2
/-- nodes to which moves lead -/
inductive Rch {α : Type} (web : List (List (α × Nat))) (bs : List Nat) : Nat → Prop
  | beg {b : Nat} : b ∈ bs → Rch web bs b
  | step {n t : Nat} {l : α} {row : List (α × Nat)} : Rch web bs n → web[n]? = some row → (l, t) ∈ row → Rch web bs t
structure NF {α : Type} (web : List (List (α × Nat))) (bs : List Nat) (fl : List Bool) (q : List Nat) : Prop where
  len : fl.length = web.length
  mem : ∀ n, fl[n]? = some true ↔ n ∈ q
  cnt : q.length + fl.count false = fl.length
  rch : ∀ n ∈ q, Rch web bs n
theorem count_set : ∀ (fl : List Bool) (t : Nat), fl[t]? = some false → (fl.set t true).count false + 1 = fl.count false
  | [], t, h => by cases t <;> cases h
  | b :: fl, 0, h => by
    cases h
    rw [List.set_cons_zero, List.count_cons, List.count_cons]
    simp
  | b :: fl, t + 1, h => by
    rw [List.set_cons_succ, List.count_cons, List.count_cons]
    have := count_set fl t h
    omega
theorem NF.put {α : Type} {web : List (List (α × Nat))} {bs : List Nat} {fl : List Bool} {q : List Nat} (N : NF web bs fl q) {t : Nat} (h : fl[t]? = some false) (r : Rch web bs t) : NF web bs (fl.set t true) (q ++ [t]) where
  len := by rw [List.length_set]; exact N.len
  mem := fun n => by
    have ht : t < fl.length := (List.getElem?_eq_some_iff.mp h).1
    rw [List.getElem?_set, List.mem_append, List.mem_singleton]
    by_cases e : t = n
    · subst e; simp [ht]
    · rw [if_neg e, N.mem n]
      exact ⟨.inl, fun z => z.elim id fun z => absurd z.symm e⟩
  cnt := by
    have := count_set fl t h
    have := N.cnt
    rw [List.length_append, List.length_set, List.length_singleton]
    omega
  rch := fun n hn => by
    rcases List.mem_append.mp hn with z | z
    · exact N.rch n z
    · rw [List.mem_singleton.mp z]; exact r
theorem NF.start {α : Type} (web : List (List (α × Nat))) (bs : List Nat) : NF web bs (List.replicate web.length false) [] where
  len := List.length_replicate
  mem := fun n => by
    rw [List.getElem?_replicate]
    split <;> simp
  cnt := by simp
  rch := fun n hn => nomatch hn
/-- all successors of the first k of q are in q -/
def Done {α : Type} (web : List (List (α × Nat))) (q : List Nat) (k : Nat) : Prop := ∀ i n row l t, i < k → q[i]? = some n → web[n]? = some row → (l, t) ∈ row → t ∈ q
def spNodesFrom : Sp := fun vs H Q _ => ∃ (α : Type) (r : Rp α) (_ : Me r) (web : List (List (α × Nat))) (bs : List Nat) (v1 v2 : V), vs = [v1, v2] ∧ rL (rL (rP r rN)) H v1 web ∧ rL rN H v2 bs ∧
  (∀ row ∈ web, ∀ p ∈ row, p.2 < web.length) ∧ (∀ b ∈ bs, b < web.length) ∧ web.length ≤ 100000 ∧
  ∀ (p : Addr) (H' : Hp) (fl : List Bool), Fe H H' → H p = none → H' p = some (.lst (fl.map V.bl)) → fl.length = web.length → (∀ n, fl[n]? = some true ↔ Rch web bs n) → Q (.ref p) H'
section
variable {P : Program} {w : World} {K : PySem.W.Frag} {g : Str → Option Value} {base : Heap}
end
end Fm
namespace Fm
open PySem L2
/-! ### turned_web -/
abbrev Ed {α : Type} (web : List (List (α × Nat))) (n : Nat) (l : α) (t : Nat) : Prop := ∃ row, web[n]? = some row ∧ (l, t) ∈ row
structure TW {α : Type} (web rows : List (List (α × Nat))) (S : Nat → α → Nat → Prop) : Prop where
  len : rows.length = web.length
  eds : ∀ t l n, Ed rows t l n ↔ (t < web.length ∧ S n l t)
theorem TW.put {α : Type} {web rows : List (List (α × Nat))} {S : Nat → α → Nat → Prop} (T : TW web rows S) {t0 n0 : Nat} {l0 : α} {row : List (α × Nat)} (h : rows[t0]? = some row) :
    TW web (rows.set t0 (row ++ [(l0, n0)])) (fun n l t => S n l t ∨ (n = n0 ∧ l = l0 ∧ t = t0)) where
  len := by rw [List.length_set]; exact T.len
  eds := fun t l n => by
    have ht := (List.getElem?_eq_some_iff.mp h).1
    have := T.eds t l n
    constructor
    · rintro ⟨row', h1, h2⟩
      rw [List.getElem?_set] at h1
      by_cases e : t0 = t
      · subst e
        rw [if_pos rfl, if_pos ht] at h1
        cases h1
        rw [List.mem_append, List.mem_singleton] at h2
        rcases h2 with h2 | h2
        · have := this.mp ⟨row, h, h2⟩
          exact ⟨this.1, .inl this.2⟩
        · cases h2
          exact ⟨by rw [← T.len]; exact ht, .inr ⟨rfl, rfl, rfl⟩⟩
      · rw [if_neg e] at h1
        have := this.mp ⟨row', h1, h2⟩
        exact ⟨this.1, .inl this.2⟩
    · rintro ⟨hl, h2 | ⟨rfl, rfl, rfl⟩⟩
      · obtain ⟨row', h1, h3⟩ := this.mpr ⟨hl, h2⟩
        by_cases e : t0 = t
        · subst e
          rw [h] at h1; cases h1
          exact ⟨_, by rw [List.getElem?_set, if_pos rfl, if_pos ht], List.mem_append_left _ h3⟩
        · exact ⟨row', by rw [List.getElem?_set, if_neg e]; exact h1, h3⟩
      · exact ⟨_, by rw [List.getElem?_set, if_pos rfl, if_pos ht], List.mem_append_right _ (List.mem_singleton.mpr rfl)⟩
theorem TW.imp {α : Type} {web rows : List (List (α × Nat))} {S S' : Nat → α → Nat → Prop} (T : TW web rows S) (h : ∀ n l t, t < web.length → (S n l t ↔ S' n l t)) : TW web rows S' :=
  ⟨T.len, fun t l n => by rw [T.eds t l n]; exact ⟨fun ⟨a, b⟩ => ⟨a, (h n l t a).mp b⟩, fun ⟨a, b⟩ => ⟨a, (h n l t a).mpr b⟩⟩⟩
theorem TW.start {α : Type} (web : List (List (α × Nat))) : TW web (List.replicate web.length []) (fun _ _ _ => False) :=
  ⟨List.length_replicate, fun t l n => by
    constructor
    · rintro ⟨row, h1, h2⟩
      rw [List.getElem?_replicate] at h1
      split at h1
      · cases h1; exact nomatch h2
      · cases h1
    · exact fun h => h.2.elim⟩
/-- a web whose moves go the other way round -/
def Turned {α : Type} (web rows : List (List (α × Nat))) : Prop := rows.length = web.length ∧ ∀ t l n, Ed rows t l n ↔ (t < web.length ∧ Ed web n l t)
def spTurnedWeb : Sp := fun vs H Q _ => ∃ (α : Type) (r : Rp α) (_ : Mo r) (web : List (List (α × Nat))) (v1 : V), vs = [v1] ∧ rL (rL (rP r rN)) H v1 web ∧
  (∀ row ∈ web, ∀ p ∈ row, p.2 < web.length) ∧ web.length ≤ 100000 ∧ (∀ row ∈ web, row.length ≤ 100) ∧
  ∀ (v : V) (H' : Hp) (rows : List (List (α × Nat))), Fe H H' → rL (rL (rP r rN)) H' v rows → Turned web rows → Q v H'
/-- the rows' sizes -/
theorem row_size {α : Type} {web rows : List (List (α × Nat))} : True := trivial
section
variable {P : Program} {w : World} {K : PySem.W.Frag} {g : Str → Option Value} {base : Heap}
end
end Fm
namespace Fm
open PySem L2
/-! ### live states -/
/-- nodes from which moves lead to ends -/
inductive Bch {α : Type} (web : List (List (α × Nat))) (es : List Nat) : Nat → Prop
  | fin {n : Nat} : n ∈ es → Bch web es n
  | step {n t : Nat} {l : α} : Ed web n l t → Bch web es t → Bch web es n
theorem rch_turned {α : Type} {web rows : List (List (α × Nat))} {es : List Nat} (T : Turned web rows) (hb : ∀ row ∈ web, ∀ p ∈ row, p.2 < web.length) (n : Nat) : Rch rows es n ↔ Bch web es n := by
  constructor
  · intro h
    induction h with
    | beg h => exact .fin h
    | @step n t l row _ hw hm ih => exact .step ((T.2 n l t).mp ⟨row, hw, hm⟩).2 ih
  · intro h
    induction h with
    | fin h => exact .beg h
    | @step n t l hE _ ih =>
      obtain ⟨row, h1, h2⟩ := hE
      obtain ⟨row', h3, h4⟩ := (T.2 t l n).mpr ⟨hb row (List.mem_of_getElem? h1) _ h2, row, h1, h2⟩
      exact .step ih h3 h4
def spNodesBetween : Sp := fun vs H Q _ => ∃ (α : Type) (r : Rp α) (_ : Mo r) (web : List (List (α × Nat))) (bs es : List Nat) (v1 v2 v3 : V), vs = [v1, v2, v3] ∧ rL (rL (rP r rN)) H v1 web ∧ rL rN H v2 bs ∧ rL rN H v3 es ∧
  (∀ row ∈ web, ∀ p ∈ row, p.2 < web.length) ∧ (∀ b ∈ bs, b < web.length) ∧ (∀ b ∈ es, b < web.length) ∧ web.length ≤ 100000 ∧ (∀ row ∈ web, row.length ≤ 100) ∧
  ∀ (v : V) (H' : Hp) (fl : List Bool), Fe H H' → rL rB H' v fl → fl.length = web.length → (∀ n, fl[n]? = some true ↔ (Rch web bs n ∧ Bch web es n)) → Q v H'
section
variable {P : Program} {w : World} {K : PySem.W.Frag} {g : Str → Option Value} {base : Heap}
/-! ### steps_by_state -/
abbrev rC : Rp Nat := fun _ v c => v = .str ⟨#[c]⟩
instance : Mo rC := ⟨fun _ h => h⟩
/-- states, ends, steps (from, letter, to) -/
abbrev Mach := Nat × List Nat × List (Nat × Nat × Nat)
abbrev rMach : Rp Mach := rP3 rN (rT rN) (rT (rP3 rN rC rN))
structure MOk (m : Mach) : Prop where
  pos : 0 < m.1
  few : m.1 ≤ 1000
  ends : ∀ q ∈ m.2.1, q < m.1
  st : ∀ s ∈ m.2.2, s.1 < m.1 ∧ s.2.2 < m.1
  fewS : m.2.2.length ≤ 100
def stepRows (n : Nat) (steps : List (Nat × Nat × Nat)) : List (List (Nat × Nat)) := (List.range n).map fun q => (steps.filter fun s => s.1 == q).map (·.2)
theorem stepRows_at {n : Nat} {steps : List (Nat × Nat × Nat)} {q : Nat} (h : q < n) : (stepRows n steps)[q]? = some ((steps.filter fun s => s.1 == q).map (·.2)) := by
  unfold stepRows
  rw [List.getElem?_map, List.getElem?_range h]
  rfl
theorem stepRows_len (n : Nat) (steps : List (Nat × Nat × Nat)) : (stepRows n steps).length = n := by
  unfold stepRows
  rw [List.length_map, List.length_range]
theorem stepRows_ed {n : Nat} {steps : List (Nat × Nat × Nat)} {q c t : Nat} (h : q < n) : Ed (stepRows n steps) q c t ↔ (q, c, t) ∈ steps := by
  constructor
  · rintro ⟨row, h1, h2⟩
    rw [stepRows_at h] at h1; cases h1
    obtain ⟨s, h3, h4⟩ := List.mem_map.mp h2
    obtain ⟨h5, h6⟩ := List.mem_filter.mp h3
    have : s.1 = q := by simpa using h6
    obtain ⟨a, b⟩ := s
    subst this
    cases h4
    exact h5
  · intro hm
    exact ⟨_, stepRows_at h, List.mem_map.mpr ⟨(q, c, t), List.mem_filter.mpr ⟨hm, by simp⟩, rfl⟩⟩
theorem stepRows_put {n : Nat} {steps : List (Nat × Nat × Nat)} {s : Nat × Nat × Nat} (h : s.1 < n) : (stepRows n steps).set s.1 ((steps.filter fun u => u.1 == s.1).map (·.2) ++ [s.2]) = stepRows n (steps ++ [s]) := by
  apply List.ext_getElem?
  intro i
  rw [List.getElem?_set]
  by_cases e : s.1 = i
  · subst e
    rw [if_pos rfl, stepRows_len, if_pos h, stepRows_at h, List.filter_append, List.map_append]
    simp
  · rw [if_neg e]
    by_cases hi : i < n
    · rw [stepRows_at hi, stepRows_at hi, List.filter_append, List.map_append]
      simp [e]
    · rw [List.getElem?_eq_none (by rw [stepRows_len]; omega), List.getElem?_eq_none (by rw [stepRows_len]; omega)]
def spStepsByState : Sp := fun vs H Q _ => ∃ (m : Mach) (v1 : V), vs = [v1] ∧ rMach H v1 m ∧ MOk m ∧
  ∀ (p : Addr) (H' : Hp) (qs : List Addr), Fe H H' → Mat (rP rC rN) H H' p qs (stepRows m.1 m.2.2) → Q (.ref p) H'
theorem ok_steps_by_state (T : Txt K g) : FnOk P w K g base CX0 1 T.d_steps_by_state.f T.d_steps_by_state.fd P_steps_by_state spStepsByState := by
  refine T.d_steps_by_state.F.ok sc_steps_by_state (fun vs H Q E h => ?_) (fun cdv A outer s H vs Q E hr h => ?_)
  · obtain ⟨m, v1, rfl, _⟩ := h
    rfl
  · obtain ⟨m, v1, rfl, hm, ok, kk⟩ := h
    have hu := hu_of hr
    refine ⟨_, (pss_cons (ps_setLc (i := 1) (own := [("_", 5)]) rfl sc_steps_by_state.nd rfl rfl (sw_true rfl rfl rfl (by decide +kernel)) (pi_range1 rfl T.z_range (pa_cons (pe_ix (kx_tup (K := K) rfl) (pv 0) pe_int (fun _ _ => rfl)) pa_nil)) (blkOk_by (N := N_steps_by_state) (sc := defScope s_steps_by_state) (by decide +kernel)) (fun _ _ _ _ _ => by exact (pg_name (i := 5) sc_steps_by_state.nd rfl (by first | exact Or.inl rfl | exact Or.inr rfl))) (fun _ _ _ _ _ => by exact pts_nil) (fun _ _ _ _ _ => by exact (pe_lst pa_nil)))
    (pss_cons (ps_for PassesOwn.never rfl (ki_tup (K := K) rfl (pe_ix (kx_tup (K := K) rfl) (pv 0) pe_int (fun _ _ => rfl))) (kg_tup (K := K) 3 rfl rfl (pgs_cons (pg_name (i := 2) sc_steps_by_state.nd rfl (by first | exact Or.inl rfl | exact Or.inr rfl)) (pgs_cons (pg_name (i := 3) sc_steps_by_state.nd rfl (by first | exact Or.inl rfl | exact Or.inr rfl)) (pgs_cons (pg_name (i := 4) sc_steps_by_state.nd rfl (by first | exact Or.inl rfl | exact Or.inr rfl)) pgs_nil))))
      (pss_one (ps_expr (ke_bm (K := K) rfl PySem.F.plainAttrs_list PySem.F.slot_list_append PySem.F.type_list_append mt_append (pe_ix (kx_list (K := K) rfl) (pv 1) (pv 2) (fun _ _ => rfl)) (pa_cons (pe_tup (pa_cons (pv 3) (pa_cons (pv 4) pa_nil))) pa_nil)))))
    (pss_one (ps_ret (pv 1))))), ?_⟩
    obtain ⟨a, x, y, z, rfl, ha, rfl, hends, hst⟩ := id hm
    obtain ⟨b, sts, rfl, hb, hsts⟩ := id hst
    have hfew := ok.few
    refine ⟨_, rfl, a, _, _, _, rfl, rfl, SqT.of ha, rfl, _, rfl, by omega, by omega, fun p hp => lc_range (MatC H p) (MatC.start hp) ?_ ?_⟩
    · intro i H' hi mc
      exact ⟨rfl, mc.go (by omega)⟩
    · intro H1 mc
      have e1 := mc.2.1
      obtain ⟨qs, M⟩ := mc.mat (r := rP rC rN) (Fx.refl [] H)
      refine ⟨_, rfl, a, _, _, _, rfl, rfl, SqT.of (e1.k ha), rfl, b, rfl, ⟨_, SqT.of (e1.k hb)⟩, for_tup (K := K) (a := b) (xs := sts) (fun i σ' H' => ∃ (o1 o2 o3 : Option V), σ' = [some (.ref a), some (.ref p), o1, o2, o3, none] ∧ Fe H H' ∧
        Mat (rP rC rN) H H' p qs (stepRows m.1 (m.2.2.take i)) ) ⟨none, none, none, rfl, e1, ?_⟩ (fun i σ' H' _ ⟨_, _, _, _, e, _⟩ => SqT.of (e.k hb)) ?_ ?_⟩
      · have : List.replicate (m.1 : Int).toNat ([] : List (Nat × Nat)) = stepRows m.1 (m.2.2.take 0) := by
          apply List.ext_getElem?
          intro i
          rw [Int.toNat_natCast, List.getElem?_replicate]
          split
          · rename_i h; rw [stepRows_at h]; rfl
          · rename_i h; rw [List.getElem?_eq_none (by rw [stepRows_len]; omega)]
        rw [← this]; exact M
      · rintro i x σ' H' hx ⟨o1, o2, o3, rfl, e, M⟩
        obtain ⟨s, hs, hxr⟩ := hsts.get hx
        obtain ⟨c, x, y, z, rfl, hc, rfl, rfl, rfl⟩ := id hxr
        have hsm : s ∈ m.2.2 := List.mem_of_getElem? hs
        obtain ⟨q, xs, hq, hqm, hqx, hal⟩ := M.get (stepRows_at (ok.st s hsm).1)
        refine ⟨c, _, rfl, SqT.of (e.k hc), rfl, _, _, rfl, _, _, rfl, _, _, rfl, rfl, ?_⟩
        have hxl : xs.length ≤ 100 := by
          rw [hal.len, List.length_map]
          have h1 := List.length_filter_le (fun u : Nat × Nat × Nat => u.1 == s.1) (m.2.2.take i)
          have h2 := ok.fewS
          rw [List.length_take] at h1
          omega
        refine ⟨_, rfl, _, rfl, p, _, _, .ref q, rfl, rfl, SqL.of M.at_, atI_nat (by rw [List.getElem?_map, hq]; rfl), .inl ⟨rfl, _, SqL.of hqx⟩, _, rfl, _, rfl, by show 2 ≤ sizeLine; decide, fun W hW => ?_⟩
        have fW : Fe H' (upd H' W (.tup [.str ⟨#[s.2.1]⟩, .int (s.2.2 : Int)])) := Fe.new hW
        refine ⟨q, xs, _, rfl, rfl, fW.k hqx, by rw [sizeLine_eq]; omega, ?_⟩
        have M2 := (M.fe fW).put (i := s.1) (v := .ref W) (x := s.2) hq (stepRows_at (ok.st s hsm).1) (fW.k hqx) (Al.mo fW hal) ⟨W, _, _, rfl, upd_same, rfl, rfl⟩
        refine ⟨_, _, _, rfl, (e.trans fW).mut (M.new q hqm), ?_⟩
        rw [stepRows_put (ok.st s hsm).1] at M2
        rw [List.take_add_one, hs]
        exact M2
      · rintro σ' H' ⟨o1, o2, o3, rfl, e, M⟩
        rw [hsts.len, List.take_of_length_le (Nat.le_refl _)] at M
        exact ⟨_, rfl, kk p H' qs e M⟩
/-! ### live_flags -/
/-- live states -/
def Live (m : Mach) (q : Nat) : Prop := Rch (stepRows m.1 m.2.2) [0] q ∧ Bch (stepRows m.1 m.2.2) m.2.1 q
def spLiveFlags : Sp := fun vs H Q _ => ∃ (m : Mach) (v1 : V), vs = [v1] ∧ rMach H v1 m ∧ MOk m ∧
  ∀ (v : V) (H' : Hp) (fl : List Bool), Fe H H' → rL rB H' v fl → fl.length = m.1 → (∀ n, fl[n]? = some true ↔ Live m n) → Q v H'
end
end Fm
namespace Fm
open PySem L2
/-! ### states_behind, states_along -/
abbrev Web := List (List (Nat × Nat))
def Lead (E : Nat → Nat → Nat → Prop) : List Nat → Nat → Nat → Prop
  | [], q, p => q = p
  | c :: t, q, p => ∃ r, E q c r ∧ Lead E t r p
theorem Lead.snoc {E : Nat → Nat → Nat → Prop} {c : Nat} : ∀ {t : List Nat} {q p : Nat}, Lead E (t ++ [c]) q p ↔ ∃ r, Lead E t q r ∧ E r c p
  | [], q, p => by
    constructor
    · rintro ⟨r, h, rfl⟩; exact ⟨q, rfl, h⟩
    · rintro ⟨r, rfl, h⟩; exact ⟨p, h, rfl⟩
  | d :: t, q, p => by
    constructor
    · rintro ⟨r, h, h2⟩
      obtain ⟨u, h3, h4⟩ := Lead.snoc.mp h2
      exact ⟨u, ⟨r, h, h3⟩, h4⟩
    · rintro ⟨u, ⟨r, h, h3⟩, h4⟩
      exact ⟨r, h, Lead.snoc.mpr ⟨u, h3, h4⟩⟩
theorem lead_lt {E : Nat → Nat → Nat → Prop} {N : Nat} (hE : ∀ q c p, E q c p → p < N) : ∀ {t : List Nat} {q p : Nat}, q < N → Lead E t q p → p < N
  | [], _, _, h, e => by cases e; exact h
  | _ :: _, _, _, _, ⟨_, h1, h2⟩ => lead_lt hE (hE _ _ _ h1) h2
/-- a web of at most 60 nodes -/
structure WOk (web : Web) : Prop where
  few : web.length ≤ 60
  ok : ∀ row ∈ web, ∀ p ∈ row, p.2 < web.length
def spStatesBehind : Sp := fun vs H Q _ => ∃ (web : Web) (qs : List Nat) (c : Nat) (v1 v2 : V), vs = [v1, v2, .str ⟨#[c]⟩] ∧ rL (rL (rP rC rN)) H v1 web ∧ rT rN H v2 qs ∧ WOk web ∧ (∀ q ∈ qs, q < web.length) ∧
  ∀ (v : V) (H' : Hp) (l : List Nat), Fe H H' → rT rN H' v l → l.Pairwise (· < ·) → (∀ t, t ∈ l ↔ ∃ q, q ∈ qs ∧ Ed web q c t) → Q v H'
theorem asc_lt {l : List Nat} (h : l.Pairwise (· ≤ ·)) (hn : l.Nodup) : l.Pairwise (· < ·) := by
  induction l with
  | nil => exact .nil
  | cons x l ih =>
    rw [List.pairwise_cons] at h ⊢
    rw [List.nodup_cons] at hn
    exact ⟨fun y hy => by have := h.1 y hy; have : x ≠ y := fun e => hn.1 (e ▸ hy); omega, ih h.2 hn.2⟩
section
variable {P : Program} {w : World} {K : PySem.W.Frag} {g : Str → Option Value} {base : Heap}
theorem ok_states_behind (T : Txt K g) : FnOk P w K g base CX0 1 T.d_states_behind.f T.d_states_behind.fd P_states_behind spStatesBehind := by
  refine T.d_states_behind.F.ok sc_states_behind (fun vs H Q E h => ?_) (fun cdv A outer s H vs Q E hr h => ?_)
  · obtain ⟨web, qs, c, v1, v2, rfl, _⟩ := h
    rfl
  · obtain ⟨web, qs, c, v1, v2, rfl, hw, hq, ok, hqs, kk⟩ := h
    have hu := hu_of hr
    refine ⟨_, (pss_cons (ps_set (i := 3) sc_states_behind.nd rfl (by first | exact Or.inl rfl | exact Or.inr rfl) pe_dnewK)
    (pss_cons (ps_for PassesOwn.never rfl (ki_tup (K := K) rfl (pv 1)) (pg_name (i := 4) sc_states_behind.nd rfl (by first | exact Or.inl rfl | exact Or.inr rfl))
      (pss_one (ps_for PassesOwn.never rfl (ki_list (K := K) rfl (pe_ix (kx_list (K := K) rfl) (pv 0) (pv 4) (fun _ _ => rfl))) (kg_tup (K := K) 2 rfl rfl (pgs_cons (pg_name (i := 5) sc_states_behind.nd rfl (by first | exact Or.inl rfl | exact Or.inr rfl)) (pgs_cons (pg_name (i := 6) sc_states_behind.nd rfl (by first | exact Or.inl rfl | exact Or.inr rfl)) pgs_nil)))
        (pss_one (ps_if (pt_cmpR op_eq (pv 5) (pv 2) (nomark _))
          (pss_one (ps_dput hu (pv 3) (pv 6) pe_bl rfl))
          pss_nil)))))
    (pss_one (ps_ret (pe_callTy (kc_tuple (K := K) rfl) (by rfl) T.z_tuple (by decide +kernel) (pa_cons (pe_callB (kc_sortedDI rfl) (by rfl) T.z_sorted (by decide +kernel) (pa_cons (pv 3) pa_nil)) pa_nil)))))), ?_⟩
    obtain ⟨a, cells, rfl, ha, hcells⟩ := id hw
    obtain ⟨b, sts, rfl, hb, hsts⟩ := id hq
    intro d hd
    have e0 : Fe H (upd H d (.dK [])) := Fe.new hd
    have hfew := ok.few
    refine ⟨_, rfl, b, rfl, ⟨_, SqT.of (e0.k hb)⟩, for_tup (K := K) (a := b) (xs := sts) (fun i σ' H' => ∃ (ks : List Nat) (o1 o2 o3 : Option V), σ' = [some (.ref a), some (.ref b), some (.str ⟨#[c]⟩), some (.ref d), o1, o2, o3] ∧ Fe H H' ∧
      H' d = some (.dK (tks kN ks)) ∧ ks.Nodup ∧ ∀ t, t ∈ ks ↔ ∃ q, q ∈ qs.take i ∧ Ed web q c t) ⟨[], none, none, none, rfl, e0, upd_same, List.nodup_nil, fun t => ⟨fun h => (nomatch h), fun ⟨q, h, _⟩ => (nomatch h)⟩⟩
      (fun i σ' H' _ ⟨_, _, _, _, _, e, _⟩ => SqT.of (e.k hb)) ?_ ?_⟩
    · rintro i x σ' H' hx ⟨ks, o1, o2, o3, rfl, e, hD, nd, hks⟩
      obtain ⟨q, hq, rfl⟩ := hsts.get hx
      have hqw := hqs q (List.mem_of_getElem? hq)
      have hwq : web[q]? = some web[q] := List.getElem?_eq_getElem hqw
      obtain ⟨rv, hrv, hrow⟩ := hcells.at hwq
      obtain ⟨r, its, rfl, hr2, hits⟩ := id hrow
      refine ⟨_, rfl, _, rfl, a, _, _, .ref r, rfl, rfl, SqL.of (e.k ha), atI_nat hrv, r, rfl, ⟨_, SqL.of (e.k hr2)⟩, for_lst (xs := its) (fun j σ' H' => ∃ (ks : List Nat) (o2 o3 : Option V), σ' = [some (.ref a), some (.ref b), some (.str ⟨#[c]⟩), some (.ref d), some (.int (q : Int)), o2, o3] ∧ Fe H H' ∧
        H' d = some (.dK (tks kN ks)) ∧ ks.Nodup ∧ ∀ t, t ∈ ks ↔ (∃ q, q ∈ qs.take i ∧ Ed web q c t) ∨ (c, t) ∈ web[q].take j) ⟨ks, o2, o3, rfl, e, hD, nd, fun t => by rw [hks t]; simp⟩ (fun j σ' H' _ ⟨_, _, _, _, e, _⟩ => e.k hr2) ?_ ?_⟩
      · rintro j x σ' H' hx ⟨ks, o2, o3, rfl, e, hD, nd, hks⟩
        obtain ⟨p, hp, hpr⟩ := hits.get hx
        obtain ⟨u, x1, x2, rfl, hu2, rfl, rfl⟩ := id hpr
        have htake : web[q].take (j + 1) = web[q].take j ++ [p] := by rw [List.take_add_one, hp]; rfl
        refine ⟨u, _, rfl, SqT.of (e.k hu2), rfl, _, _, rfl, _, _, rfl, rfl, ?_⟩
        refine ⟨_, rfl, _, rfl, rfl, _, rfl, ?_⟩
        by_cases hc : p.1 = c
        · rw [decide_eq_true (by rw [hc])]
          have hkl : ks.length ≤ 60 := by
            refine Nat.le_trans (nodup_below web.length ks nd fun t ht => ?_) hfew
            rcases (hks t).mp ht with ⟨q, _, row, h1, h2⟩ | h
            · exact ok.ok row (List.mem_of_getElem? h1) _ h2
            · exact ok.ok _ (List.mem_of_getElem? hwq) _ (List.mem_of_mem_take h)
          refine iteT ⟨_, rfl, _, rfl, d, _, rfl, DPut.k (k := kN p.2) hD (by rw [tks_len, sizeLine_eq]; omega), ?_⟩
          refine ⟨ins p.2 ks, _, _, rfl, e.mut hd, by rw [upd_same, tks_put kN kN_inj], nd_ins nd, fun t => ?_⟩
          rw [mem_ins, hks t, htake, List.mem_append, List.mem_singleton]
          constructor
          · rintro (rfl | h | h)
            · exact .inr (.inr (by rw [← hc]))
            · exact .inl h
            · exact .inr (.inl h)
          · rintro (h | h | h)
            · exact .inr (.inl h)
            · exact .inr (.inr h)
            · exact .inl (by rw [← h])
        · rw [decide_eq_false (by intro z; apply hc; have := V.str.inj z; have := congrArg Str.cps this; simpa using this)]
          refine iteF ⟨ks, _, _, rfl, e, hD, nd, fun t => ?_⟩
          rw [hks t, htake, List.mem_append, List.mem_singleton]
          constructor
          · rintro (h | h)
            · exact .inl h
            · exact .inr (.inl h)
          · rintro (h | h | h)
            · exact .inl h
            · exact .inr h
            · exact absurd (by rw [← h]) hc
      · rintro σ' H' ⟨ks, o2, o3, rfl, e, hD, nd, hks⟩
        refine ⟨ks, _, _, _, rfl, e, hD, nd, fun t => ?_⟩
        rw [hks t, hits.len, List.take_length, List.take_add_one, hq]
        constructor
        · rintro (⟨q', h, h2⟩ | h)
          · exact ⟨q', List.mem_append_left _ h, h2⟩
          · exact ⟨q, List.mem_append_right _ (List.mem_singleton.mpr rfl), _, hwq, h⟩
        · rintro ⟨q', h, row, h1, h2⟩
          rcases List.mem_append.mp h with h | h
          · exact .inl ⟨q', h, row, h1, h2⟩
          · have e2 : q' = q := List.mem_singleton.mp h
            subst e2
            rw [hwq] at h1; cases h1
            exact .inr h2
    · rintro σ' H' ⟨ks, o1, o2, o3, rfl, e, hD, nd, hks⟩
      have hkl : ks.length ≤ 60 := by
        refine Nat.le_trans (nodup_below web.length ks nd fun t ht => ?_) hfew
        obtain ⟨q, _, row, h1, h2⟩ := (hks t).mp ht
        exact ok.ok row (List.mem_of_getElem? h1) _ h2
      refine ⟨_, rfl, d, _, ks.map fun n : Nat => (n : Int), rfl, .inl hD, by rw [tks_keys, List.map_map]; rfl, by rw [List.length_map]; omega, fun ys p hp hs hnp => ?_⟩
      obtain ⟨l, rfl, hpm⟩ := perm_nats hp
      have e1 : Fe H' (upd H' p (.lst ((l.map fun n : Nat => (n : Int)).map V.int))) := Fe.new hnp
      refine ⟨p, _, rfl, .inl ⟨SqL.of upd_same, fun p2 hp2 => ?_⟩⟩
      refine kk _ _ l ((e.trans e1).trans (Fe.new hp2)) ⟨p2, _, rfl, upd_same, ?_⟩ ?_ fun t => ?_
      · rw [List.map_map]
        exact Al.ofNats l
      · refine asc_lt ?_ (hpm.nodup_iff.mpr nd)
        rw [List.pairwise_map] at hs
        exact hs.imp fun h => by omega
      · rw [hpm.mem_iff, hks t, List.take_of_length_le (by rw [hsts.len]; exact Nat.le_refl _)]
def spStatesAlong : Sp := fun vs H Q _ => ∃ (web : Web) (qs : List Nat) (t : List Nat) (v1 v2 : V), vs = [v1, v2, .str ⟨t.toArray⟩] ∧ rL (rL (rP rC rN)) H v1 web ∧ rT rN H v2 qs ∧ WOk web ∧ (∀ q ∈ qs, q < web.length) ∧ qs.Nodup ∧
  ∀ (v : V) (H' : Hp) (l : List Nat), Fe H H' → rT rN H' v l → l.Nodup → (∀ p, p ∈ l ↔ ∃ q, q ∈ qs ∧ Lead (Ed web) t q p) → Q v H'
theorem ok_states_along (T : Txt K g) : FnOk P w K g base CX0 2 T.d_states_along.f T.d_states_along.fd P_states_along spStatesAlong := by
  refine T.d_states_along.F.ok sc_states_along (fun vs H Q E h => ?_) (fun cdv A outer s H vs Q E hr h => ?_)
  · obtain ⟨web, qs, t, v1, v2, rfl, _⟩ := h
    rfl
  · obtain ⟨web, qs, t, v1, v2, rfl, hw, hq, ok, hqs, hnd, kk⟩ := h
    have hu := hu_of hr
    refine ⟨_, (pss_cons (ps_for PassesOwn.never rfl (pi_str (pv 2)) (pg_name (i := 3) sc_states_along.nd rfl (by first | exact Or.inl rfl | exact Or.inr rfl))
      (pss_one (ps_set (i := 1) sc_states_along.nd rfl (by first | exact Or.inl rfl | exact Or.inr rfl) (pe_call (ok_states_behind T) (hr.mono (by decide)) rfl T.d_states_behind.mg T.d_states_behind.kp T.d_states_behind.b .nil pass0 (pa_cons (pv 0) (pa_cons (pv 1) (pa_cons (pv 3) pa_nil)))))))
    (pss_one (ps_ret (pv 1)))), ?_⟩
    refine ⟨_, rfl, _, rfl, for_str (l := t) (fun i σ' H' => ∃ (v : V) (o : Option V) (l : List Nat), σ' = [some v1, some v, some (.str ⟨t.toArray⟩), o] ∧ Fe H H' ∧ rT rN H' v l ∧ l.Nodup ∧ ∀ p, p ∈ l ↔ ∃ q, q ∈ qs ∧ Lead (Ed web) (t.take i) q p)
      ⟨v2, none, qs, rfl, Fx.refl _ _, hq, hnd, fun p => ⟨fun h => ⟨p, h, rfl⟩, fun ⟨q, h, e⟩ => by have e : q = p := e; exact e ▸ h⟩⟩ ?_ ?_⟩
    · rintro i c σ' H' hc ⟨v, o, l, rfl, e, hl, hln, hm⟩
      refine ⟨_, rfl, _, rfl, _, rfl, web, l, c, v1, v, rfl, Me.go hw e, hl, ok, fun p hp => ?_, fun v' H2 l' e2 hl' hlt' hm' => ⟨v', _, l', rfl, e.trans e2, hl', hlt'.imp (fun h => by omega), fun p => ?_⟩⟩
      · obtain ⟨q, h1, h2⟩ := (hm p).mp hp
        exact lead_lt (fun q c p ⟨row, h3, h4⟩ => ok.ok row (List.mem_of_getElem? h3) _ h4) (hqs q h1) h2
      · rw [hm' p, List.take_add_one, hc]
        show _ ↔ ∃ q, q ∈ qs ∧ Lead (Ed web) (t.take i ++ [c]) q p
        constructor
        · rintro ⟨r, h1, h2⟩
          obtain ⟨q, h3, h4⟩ := (hm r).mp h1
          exact ⟨q, h3, Lead.snoc.mpr ⟨r, h4, h2⟩⟩
        · rintro ⟨q, h3, h4⟩
          obtain ⟨r, h5, h6⟩ := Lead.snoc.mp h4
          exact ⟨r, (hm r).mpr ⟨q, h3, h5⟩, h6⟩
    · rintro σ' H' ⟨v, o, l, rfl, e, hl, hln, hm⟩
      refine ⟨_, rfl, kk v H' l e hl hln fun p => ?_⟩
      rw [hm p, List.take_of_length_le (Nat.le_refl _)]
/-! ### rests_of -/
/-- letters, edits (read, write, cost) -/
abbrev Book := List Nat × List (List Nat × List Nat × Nat)
abbrev rBook : Rp Book := rP rS (rT (rP3 rS rS rN))
structure BOk (b : Book) : Prop where
  few : b.2.length ≤ 60
  len : ∀ e ∈ b.2, e.1.length ≤ 3
  len2 : ∀ e ∈ b.2, e.2.1.length ≤ 3
  lets : ∀ e ∈ b.2, ∀ c ∈ e.1, c ∈ b.1
  fewL : b.1.length ≤ 100
/-- what of a read may still be to be read -/
def Rest (b : Book) (r : List Nat) : Prop := r = [] ∨ ∃ e k, e ∈ b.2 ∧ 1 ≤ k ∧ k < e.1.length ∧ r = e.1.drop k
def sS (l : List Nat) : Str := ⟨l.toArray⟩
def spRestsOf : Sp := fun vs H Q _ => ∃ (b : Book) (v1 : V), vs = [v1] ∧ rBook H v1 b ∧ BOk b ∧ b.2.length ≤ 30 ∧
  ∀ (v : V) (H' : Hp) (l : List (List Nat)), Fe H H' → rL rS H' v l → l.Nodup → PyProof.Rows.sortedS (l.map sS) = true → (∀ r, r ∈ l ↔ Rest b r) → l.length ≤ 1 + 2 * b.2.length → Q v H'
theorem perm_strs {ys : List Str} {ks : List (List Nat)} (h : ys.Perm (ks.map sS)) : ∃ l : List (List Nat), ys = l.map sS ∧ l.Perm ks := by
  have e1 : ∀ x ∈ ys, sS x.cps.toList = x := fun x _ => by
    show (⟨x.cps.toList.toArray⟩ : Str) = x
    rw [Array.toArray_toList]
  refine ⟨ys.map fun x => x.cps.toList, ?_, ?_⟩
  · rw [List.map_map]
    conv => lhs; rw [← List.map_id ys]
    exact List.map_congr_left fun x hx => (e1 x hx).symm
  · have := h.map fun x : Str => x.cps.toList
    rw [List.map_map] at this
    have e : ks.map ((fun x : Str => x.cps.toList) ∘ sS) = ks := by
      conv => rhs; rw [← List.map_id ks]
      exact List.map_congr_left fun n _ => rfl
    rw [e] at this
    exact this
theorem Al.strs {H : Hp} : ∀ l : List (List Nat), Al rS H ((l.map sS).map V.str) l
  | [] => .nil
  | x :: l => .cons rfl (Al.strs l)
theorem ok_rests_of (T : Txt K g) : FnOk P w K g base CX0 1 T.d_rests_of.f T.d_rests_of.fd P_rests_of spRestsOf := by
  refine T.d_rests_of.F.ok sc_rests_of (fun vs H Q E h => ?_) (fun cdv A outer s H vs Q E hr h => ?_)
  · obtain ⟨b, v1, rfl, _⟩ := h
    rfl
  · obtain ⟨b, v1, rfl, hb, ok, h30, kk⟩ := h
    have hu := hu_of hr
    refine ⟨_, (pss_cons (ps_set (i := 1) sc_rests_of.nd rfl (by first | exact Or.inl rfl | exact Or.inr rfl) (pe_disp (pps_cons pe_str pe_bl pps_nil) (by rfl) (by rfl) (fun z => by cases z) (by decide)))
    (pss_cons (ps_for PassesOwn.never rfl (ki_tup (K := K) rfl (pe_ix (kx_tup (K := K) rfl) (pv 0) pe_int (fun _ _ => rfl))) (kg_tup (K := K) 3 rfl rfl (pgs_cons (pg_name (i := 2) sc_rests_of.nd rfl (by first | exact Or.inl rfl | exact Or.inr rfl)) (pgs_cons (pg_name (i := 3) sc_rests_of.nd rfl (by first | exact Or.inl rfl | exact Or.inr rfl)) (pgs_cons (pg_name (i := 3) sc_rests_of.nd rfl (by first | exact Or.inl rfl | exact Or.inr rfl)) pgs_nil))))
      (pss_one (ps_for PassesOwn.never rfl (pi_range2 rfl T.z_range (pa_cons pe_int (pa_cons (pe_callB kc_lenS (by rfl) T.z_len PySem.boot_len (pa_cons (pv 2) pa_nil)) pa_nil))) (pg_name (i := 4) sc_rests_of.nd rfl (by first | exact Or.inl rfl | exact Or.inr rfl))
        (pss_one (ps_dput hu (pv 1) (pe_slice sl_str (pv 2) (po_some (pv 4)) po_none) pe_bl rfl)))))
    (pss_one (ps_ret (pe_callB (kc_sortedDS rfl) (by rfl) T.z_sorted (by decide +kernel) (pa_cons (pv 1) pa_nil)))))), ?_⟩
    obtain ⟨a, x, y, rfl, ha, rfl, hed⟩ := id hb
    obtain ⟨c, eds, rfl, hc, heds⟩ := id hed
    -- found = {"": True}
    intro d hd
    have e0 : Fe H (upd H d (.dK [])) := Fe.new hd
    refine ⟨upd_same, [(kS [], .bl true)], rfl, by decide, ?_⟩
    have e1 : Fe H (upd (upd H d (.dK [])) d (.dK (mergeK [] [(kS [], .bl true)]))) := e0.mut hd
    have em : mergeK [] [(kS [], V.bl true)] = tks kS [[]] := by
      have := tks_put kS kS_inj [] []
      exact this
    rw [em] at e1 ⊢
    generalize hH1 : upd (upd H d (.dK [])) d (.dK (tks kS [[]])) = H1 at e1
    have d1 : H1 d = some (.dK (tks kS [[]])) := by rw [← hH1]; exact upd_same
    clear hH1
    -- for read, _, _ in book[1]
    refine ⟨_, rfl, a, _, _, _, rfl, rfl, SqT.of (e1.k ha), rfl, c, rfl, ⟨_, SqT.of (e1.k hc)⟩, for_tup (K := K) (a := c) (xs := eds) (fun i σ' H' => ∃ (ks : List (List Nat)) (o1 o2 o3 : Option V), σ' = [some (.ref a), some (.ref d), o1, o2, o3] ∧ Fe H H' ∧
      H' d = some (.dK (tks kS ks)) ∧ ks.Nodup ∧ ks.length ≤ 1 + 2 * i ∧ ∀ r, r ∈ ks ↔ (r = [] ∨ ∃ e k, e ∈ b.2.take i ∧ 1 ≤ k ∧ k < e.1.length ∧ r = e.1.drop k)) ⟨[[]], none, none, none, rfl, e1, d1, by simp, by simp, fun r => by simp⟩
      (fun i σ' H' _ ⟨_, _, _, _, _, e, _⟩ => SqT.of (e.k hc)) ?_ ?_⟩
    · rintro i x σ' H' hx ⟨ks, o1, o2, o3, rfl, e, hD, nd, hkl, hks⟩
      obtain ⟨ed, hed, hxr⟩ := heds.get hx
      obtain ⟨u, x1, x2, x3, rfl, hu2, rfl, rfl, rfl⟩ := id hxr
      have hem : ed ∈ b.2 := List.mem_of_getElem? hed
      have h3 := ok.len ed hem
      have hil : i < b.2.length := (List.getElem?_eq_some_iff.mp hed).1
      refine ⟨u, _, rfl, SqT.of (e.k hu2), rfl, _, _, rfl, _, _, rfl, _, _, rfl, rfl, ?_⟩
      refine ⟨_, rfl, _, rfl, by rw [slen, sizeLine_eq]; omega, 1, ((ed.1.length : Nat) : Int), by rw [slen], ⟨by omega, by omega, by omega, by omega⟩, for_range (lo := 1) (n := ((ed.1.length : Int) - 1).toNat) (fun j σ' H' => ∃ (ks : List (List Nat)) (o2 : Option V), σ' = [some (.ref a), some (.ref d), some (.str ⟨ed.1.toArray⟩), some (.int (ed.2.2 : Int)), o2] ∧ Fe H H' ∧
        H' d = some (.dK (tks kS ks)) ∧ ks.Nodup ∧ ks.length ≤ 1 + 2 * i + j ∧ ∀ r, r ∈ ks ↔ ((r = [] ∨ ∃ e k, e ∈ b.2.take i ∧ 1 ≤ k ∧ k < e.1.length ∧ r = e.1.drop k) ∨ ∃ k, 1 ≤ k ∧ k < 1 + j ∧ r = ed.1.drop k)) ⟨ks, o3, rfl, e, hD, nd, hkl, fun r => by rw [hks r]; exact ⟨.inl, fun h => h.elim id fun ⟨k, a, b, _⟩ => by omega⟩⟩ ?_ ?_⟩
      · rintro j σ' H' hj ⟨ks, o2, rfl, e, hD, nd, hkl, hks⟩
        refine ⟨_, rfl, _, rfl, _, rfl, _, rfl, _, rfl, by rw [slen, sizeLine_eq]; omega, ?_⟩
        have ec : cutS ⟨ed.1.toArray⟩ (some (1 + (j : Int))) none = ⟨(ed.1.drop (1 + j)).toArray⟩ := by
          have := cut_from ed.1 (1 + j)
          rw [← this]
          congr 2
        refine ⟨d, upd H' d (.dK (putK (tks kS ks) (kS (ed.1.drop (1 + j))) (.bl true))), rfl, by rw [ec]; exact DPut.k (k := kS (ed.1.drop (1 + j))) hD (by rw [tks_len, sizeLine_eq]; omega), ?_⟩
        refine ⟨ins (ed.1.drop (1 + j)) ks, _, rfl, e.mut hd, by rw [upd_same, tks_put kS kS_inj], nd_ins nd, by have := len_ins (ed.1.drop (1 + j)) ks; omega, fun r => ?_⟩
        rw [mem_ins, hks r]
        constructor
        · rintro (h | h | ⟨k, h1, h2, h3⟩)
          · exact .inr ⟨1 + j, by omega, by omega, h⟩
          · exact .inl h
          · exact .inr ⟨k, h1, by omega, h3⟩
        · rintro (h | ⟨k, h1, h2, h3⟩)
          · exact .inr (.inl h)
          · by_cases hk : k = 1 + j
            · subst hk; exact .inl h3
            · exact .inr (.inr ⟨k, h1, by omega, h3⟩)
      · rintro σ' H' ⟨ks, o2, rfl, e, hD, nd, hkl, hks⟩
        refine ⟨ks, _, _, _, rfl, e, hD, nd, by omega, fun r => ?_⟩
        rw [hks r, List.take_add_one, hed]
        constructor
        · rintro ((h | ⟨e', k, h1, h2⟩) | ⟨k, h1, h2, h3⟩)
          · exact .inl h
          · exact .inr ⟨e', k, List.mem_append_left _ h1, h2⟩
          · exact .inr ⟨ed, k, List.mem_append_right _ (List.mem_singleton.mpr rfl), h1, by omega, h3⟩
        · rintro (h | ⟨e', k, h1, h2, h3, h4⟩)
          · exact .inl (.inl h)
          · rcases List.mem_append.mp h1 with h1 | h1
            · exact .inl (.inr ⟨e', k, h1, h2, h3, h4⟩)
            · have e2 : e' = ed := List.mem_singleton.mp h1
              subst e2
              exact .inr ⟨k, h2, by omega, h4⟩
    · rintro σ' H' ⟨ks, o1, o2, o3, rfl, e, hD, nd, hkl, hks⟩
      rw [heds.len] at hkl hks
      refine ⟨_, rfl, d, _, ks.map sS, rfl, .inl hD, by rw [tks_keys, List.map_map]; rfl, by rw [List.length_map]; omega, fun ys p hp hs hnp => ?_⟩
      obtain ⟨l, rfl, hpm⟩ := perm_strs hp
      refine kk _ _ l (e.trans (Fe.new hnp)) ⟨p, _, rfl, upd_same, Al.strs l⟩ (hpm.nodup_iff.mpr nd) hs (fun r => ?_) (by rw [hpm.length_eq]; exact hkl)
      rw [hpm.mem_iff, hks r, List.take_length]
      rfl
end
end Fm
namespace Fm
open PySem L2
/-! ### standings and moves -/
abbrev Stg := Nat × List Nat
abbrev Em (m : Mach) (q c t : Nat) : Prop := (q, c, t) ∈ m.2.2
/-- a move that reads nothing -/
def Sil (b : Book) (m : Mach) (s s' : Stg) (c : Nat) : Prop := s.2 = [] ∧ s'.2 = [] ∧ ∃ wr, (([], wr, c) : List Nat × List Nat × Nat) ∈ b.2 ∧ Lead (Em m) wr s.1 s'.1
/-- a move that reads the letter x -/
def Rea (b : Book) (m : Mach) (x : Nat) (s s' : Stg) (c : Nat) : Prop :=
  (∃ r, s.2 = x :: r ∧ s' = (s.1, r) ∧ c = 0) ∨ (s.2 = [] ∧ s'.2 = [] ∧ Em m s.1 x s'.1 ∧ c = 0) ∨ (s.2 = [] ∧ ∃ rd wr, ((x :: rd, wr, c) : List Nat × List Nat × Nat) ∈ b.2 ∧ s'.2 = rd ∧ Lead (Em m) wr s.1 s'.1)
/-- the one or the other -/
def Mv (b : Book) (m : Mach) (k : Option Nat) (s s' : Stg) (c : Nat) : Prop := match k with
  | none => Sil b m s s' c
  | some x => Rea b m x s s' c
abbrev Row := List (Nat × Nat × Unit)
abbrev rMv : Rp (Nat × Nat × Unit) := rP3 rN rN rX
abbrev Edc (rows : List Row) (h to c : Nat) : Prop := ∃ row, rows[h]? = some row ∧ (to, c, ()) ∈ row
abbrev MatD := Addr × List Addr × List Row
def adr (L : List MatD) : List Addr := L.flatMap fun m => m.1 :: m.2.1
structure Mats (H0 H : Hp) (L : List MatD) : Prop where
  mat : ∀ m ∈ L, Mat rMv H0 H m.1 m.2.1 m.2.2
  nd : (adr L).Nodup
theorem adr_set {L : List MatD} {j : Nat} {m : MatD} (h : L[j]? = some m) (rows : List Row) : adr (L.set j (m.1, m.2.1, rows)) = adr L := by
  induction L generalizing j with
  | nil => rfl
  | cons a L ih =>
    cases j with
    | zero => cases h; rfl
    | succ j =>
      show _ ++ adr (L.set j _) = _ ++ adr L
      rw [ih h]
theorem mem_adr {L : List MatD} {m : MatD} {a : Addr} (h : m ∈ L) (ha : a = m.1 ∨ a ∈ m.2.1) : a ∈ adr L :=
  List.mem_flatMap.mpr ⟨m, h, by rcases ha with rfl | h; exact List.mem_cons_self; exact List.mem_cons_of_mem _ h⟩
theorem adr_apart {L : List MatD} (nd : (adr L).Nodup) {i j : Nat} {m n : MatD} (hi : L[i]? = some m) (hj : L[j]? = some n) (ne : i ≠ j) {a : Addr} (ha : a ∈ m.1 :: m.2.1) : a ∉ n.1 :: n.2.1 := by
  induction L generalizing i j with
  | nil => cases hi
  | cons b L ih =>
    have nd' : ((b.1 :: b.2.1) ++ adr L).Nodup := nd
    rw [List.nodup_append] at nd'
    obtain ⟨_, n2, n3⟩ := nd'
    cases i with
    | zero =>
      cases j with
      | zero => exact absurd rfl ne
      | succ j =>
        cases hi
        intro hn
        exact n3 a ha a (List.mem_flatMap.mpr ⟨n, List.mem_of_getElem? hj, hn⟩) rfl
    | succ i =>
      cases j with
      | zero =>
        cases hj
        intro hn
        exact n3 a hn a (List.mem_flatMap.mpr ⟨m, List.mem_of_getElem? hi, ha⟩) rfl
      | succ j => exact ih n2 hi hj (by omega)
theorem Mats.fe {H0 H H' : Hp} {L : List MatD} (M : Mats H0 H L) (f : Fe H H') : Mats H0 H' L := ⟨fun m h => (M.mat m h).fe f, M.nd⟩
theorem Mats.put {H0 H : Hp} {L : List MatD} (M : Mats H0 H L) {j h : Nat} {m : MatD} {q : Addr} {row : Row} {xs : List V} {v : V} {x : Nat × Nat × Unit} (hj : L[j]? = some m)
    (hq : m.2.1[h]? = some q) (hr : m.2.2[h]? = some row) (hx : H q = some (.lst xs)) (ha : Al rMv H xs row) (hv : rMv H v x) : Mats H0 (upd H q (.lst (xs ++ [v]))) (L.set j (m.1, m.2.1, m.2.2.set h (row ++ [x]))) := by
  have hm := List.mem_of_getElem? hj
  have hqm : q ∈ m.1 :: m.2.1 := List.mem_cons_of_mem _ (List.mem_of_getElem? hq)
  refine ⟨fun n hn => ?_, by rw [adr_set hj]; exact M.nd⟩
  obtain ⟨i, hi⟩ := List.mem_iff_getElem?.mp hn
  rw [List.getElem?_set] at hi
  by_cases e : j = i
  · subst e
    rw [if_pos rfl, if_pos (List.getElem?_eq_some_iff.mp hj).1] at hi
    cases hi
    exact (M.mat m hm).put hq hr hx ha hv
  · rw [if_neg e] at hi
    have ap := adr_apart M.nd hj hi e hqm
    have f : Fx [q] H (upd H q (.lst (xs ++ [v]))) := Fx.put hx (List.mem_singleton.mpr rfl) (fun _ z => nomatch z)
    refine (M.mat n (List.mem_of_getElem? hi)).keep f (fun z => ap ?_) (fun a ha z => ap ?_)
    · rw [← List.mem_singleton.mp z]; exact List.mem_cons_self
    · rw [← List.mem_singleton.mp z]; exact List.mem_cons_of_mem _ ha
/-- which moves the rows tell so far: by the key (none: silent; a letter), the standings' numbers, the cost -/
structure Rows (n : Nat) (ks : List (Option Nat)) (L : List MatD) (S : Option Nat → Nat → Nat → Nat → Prop) : Prop where
  len : L.length = ks.length
  rl : ∀ m ∈ L, m.2.2.length = n
  ed : ∀ (j : Nat) (k : Option Nat) (m : MatD) (h to c : Nat), ks[j]? = some k → L[j]? = some m → (Edc m.2.2 h to c ↔ (h < n ∧ S k h to c))
theorem Rows.put {n : Nat} {ks : List (Option Nat)} {L : List MatD} {S : Option Nat → Nat → Nat → Nat → Prop} (R : Rows n ks L S) (nk : ks.Nodup) {j h to c : Nat} {k : Option Nat} {m : MatD} {row : Row} (hk : ks[j]? = some k) (hj : L[j]? = some m)
    (hr : m.2.2[h]? = some row) : Rows n ks (L.set j (m.1, m.2.1, m.2.2.set h (row ++ [(to, c, ())]))) (fun k' h' to' c' => S k' h' to' c' ∨ (k' = k ∧ h' = h ∧ to' = to ∧ c' = c)) where
  len := by rw [List.length_set]; exact R.len
  rl := fun m' hm => by
    rcases List.mem_or_eq_of_mem_set hm with hm | rfl
    · exact R.rl m' hm
    · rw [List.length_set]; exact R.rl m (List.mem_of_getElem? hj)
  ed := fun i k' m' h' to' c' hi hm => by
    have hlt := (List.getElem?_eq_some_iff.mp hj).1
    have hhl := (List.getElem?_eq_some_iff.mp hr).1
    have hn : h < n := by rw [← R.rl m (List.mem_of_getElem? hj)]; exact hhl
    rw [List.getElem?_set] at hm
    by_cases e : j = i
    · subst e
      rw [if_pos rfl, if_pos hlt] at hm
      cases hm
      rw [hk] at hi; cases hi
      have := R.ed j k m h' to' c' hk hj
      constructor
      · rintro ⟨row', h1, h2⟩
        rw [List.getElem?_set] at h1
        by_cases e2 : h = h'
        · subst e2
          rw [if_pos rfl, if_pos hhl] at h1
          cases h1
          rcases List.mem_append.mp h2 with h2 | h2
          · have := this.mp ⟨row, hr, h2⟩
            exact ⟨this.1, .inl this.2⟩
          · have e3 := List.mem_singleton.mp h2
            cases e3
            exact ⟨hn, .inr ⟨rfl, rfl, rfl, rfl⟩⟩
        · rw [if_neg e2] at h1
          have := this.mp ⟨row', h1, h2⟩
          exact ⟨this.1, .inl this.2⟩
      · rintro ⟨hl, h2 | ⟨_, rfl, rfl, rfl⟩⟩
        · obtain ⟨row', h1, h3⟩ := this.mpr ⟨hl, h2⟩
          by_cases e2 : h = h'
          · subst e2
            rw [hr] at h1; cases h1
            exact ⟨_, by rw [List.getElem?_set, if_pos rfl, if_pos hhl], List.mem_append_left _ h3⟩
          · exact ⟨row', by rw [List.getElem?_set, if_neg e2]; exact h1, h3⟩
        · exact ⟨_, by rw [List.getElem?_set, if_pos rfl, if_pos hhl], List.mem_append_right _ (List.mem_singleton.mpr rfl)⟩
    · rw [if_neg e] at hm
      have ne : k' ≠ k := fun z => e (nd_ix nk (z ▸ hk) hi)
      rw [R.ed i k' m' h' to' c' hi hm]
      exact ⟨fun ⟨a, b⟩ => ⟨a, .inl b⟩, fun ⟨a, b⟩ => ⟨a, b.elim id fun z => absurd z.1 ne⟩⟩
theorem Rows.imp {n : Nat} {ks : List (Option Nat)} {L : List MatD} {S S' : Option Nat → Nat → Nat → Nat → Prop} (R : Rows n ks L S) (h : ∀ k h to c, k ∈ ks → h < n → (S k h to c ↔ S' k h to c)) : Rows n ks L S' :=
  ⟨R.len, R.rl, fun j k m h' to c hk hm => by rw [R.ed j k m h' to c hk hm]; exact ⟨fun ⟨a, b⟩ => ⟨a, (h k h' to c (List.mem_of_getElem? hk) a).mp b⟩, fun ⟨a, b⟩ => ⟨a, (h k h' to c (List.mem_of_getElem? hk) a).mpr b⟩⟩⟩
/-- the rows at one place hold at most t moves -/
def Bd (i t : Nat) (L : List MatD) : Prop := ∀ m ∈ L, ∀ row, m.2.2[i]? = some row → row.length ≤ t
theorem Bd.put {i t : Nat} {L : List MatD} (B : Bd i t L) {j : Nat} {m : MatD} {row : Row} {x : Nat × Nat × Unit} (hj : L[j]? = some m) (hr : m.2.2[i]? = some row) : Bd i (t + 1) (L.set j (m.1, m.2.1, m.2.2.set i (row ++ [x]))) := by
  intro m' hm row' hr'
  have hm0 := List.mem_of_getElem? hj
  rcases List.mem_or_eq_of_mem_set hm with hm | rfl
  · have := B m' hm row' hr'; omega
  · rw [List.getElem?_set, if_pos rfl, if_pos (List.getElem?_eq_some_iff.mp hr).1] at hr'
    cases hr'
    rw [List.length_append, List.length_singleton]
    have := B m hm0 row hr; omega
theorem Bd.none_ {i n : Nat} {ks : List (Option Nat)} {L : List MatD} {S : Option Nat → Nat → Nat → Nat → Prop} (R : Rows n ks L S) (h : ∀ k to c, ¬ S k i to c) : Bd i 0 L := by
  intro m hm row hr
  obtain ⟨j, hj⟩ := List.mem_iff_getElem?.mp hm
  have hjl : j < ks.length := by rw [← R.len]; exact (List.getElem?_eq_some_iff.mp hj).1
  cases row with
  | nil => exact Nat.le_refl _
  | cons x r =>
    obtain ⟨to, c, u⟩ := x
    exact absurd ((R.ed j _ m i to c (List.getElem?_eq_getElem hjl) hj).mp ⟨_, hr, List.mem_cons_self⟩).2 (h _ _ _)
/-! ### the web as an object -/
abbrev nb : Str := "book"
abbrev nm : Str := "machine"
abbrev ns : Str := "standings"
abbrev nh : Str := "homes"
abbrev nl : Str := "silent"
abbrev nr : Str := "reading"
def wfl (vb vm vs vh vl vr : V) : List (Str × V) := putF nr vr (putF nl vl (putF nh vh (putF ns vs (putF nm vm (putF nb vb [])))))
theorem w_bm : ¬ nb = nm := by decide +kernel
theorem w_bs : ¬ nb = ns := by decide +kernel
theorem w_bh : ¬ nb = nh := by decide +kernel
theorem w_bl : ¬ nb = nl := by decide +kernel
theorem w_br : ¬ nb = nr := by decide +kernel
theorem w_ms : ¬ nm = ns := by decide +kernel
theorem w_mh : ¬ nm = nh := by decide +kernel
theorem w_ml : ¬ nm = nl := by decide +kernel
theorem w_mr : ¬ nm = nr := by decide +kernel
theorem w_sh : ¬ ns = nh := by decide +kernel
theorem w_sl : ¬ ns = nl := by decide +kernel
theorem w_sr : ¬ ns = nr := by decide +kernel
theorem w_hl : ¬ nh = nl := by decide +kernel
theorem w_hr : ¬ nh = nr := by decide +kernel
theorem w_lr : ¬ nl = nr := by decide +kernel
theorem wfl_b {vb vm vs vh vl vr : V} : (wfl vb vm vs vh vl vr).lookup nb = some vb := by
  unfold wfl
  rw [lookup_putF, if_neg w_br, lookup_putF, if_neg w_bl, lookup_putF, if_neg w_bh, lookup_putF, if_neg w_bs, lookup_putF, if_neg w_bm, lookup_putF, if_pos rfl]
theorem wfl_m {vb vm vs vh vl vr : V} : (wfl vb vm vs vh vl vr).lookup nm = some vm := by
  unfold wfl
  rw [lookup_putF, if_neg w_mr, lookup_putF, if_neg w_ml, lookup_putF, if_neg w_mh, lookup_putF, if_neg w_ms, lookup_putF, if_pos rfl]
theorem wfl_s {vb vm vs vh vl vr : V} : (wfl vb vm vs vh vl vr).lookup ns = some vs := by
  unfold wfl
  rw [lookup_putF, if_neg w_sr, lookup_putF, if_neg w_sl, lookup_putF, if_neg w_sh, lookup_putF, if_pos rfl]
theorem wfl_h {vb vm vs vh vl vr : V} : (wfl vb vm vs vh vl vr).lookup nh = some vh := by
  unfold wfl
  rw [lookup_putF, if_neg w_hr, lookup_putF, if_neg w_hl, lookup_putF, if_pos rfl]
theorem wfl_l {vb vm vs vh vl vr : V} : (wfl vb vm vs vh vl vr).lookup nl = some vl := by
  unfold wfl
  rw [lookup_putF, if_neg w_lr, lookup_putF, if_pos rfl]
theorem wfl_r {vb vm vs vh vl vr : V} : (wfl vb vm vs vh vl vr).lookup nr = some vr := by
  unfold wfl
  rw [lookup_putF, if_pos rfl]
theorem wfl_no {vb vm vs vh vl vr : V} {f : Str} (h1 : ¬ f = nb) (h2 : ¬ f = nm) (h3 : ¬ f = ns) (h4 : ¬ f = nh) (h5 : ¬ f = nl) (h6 : ¬ f = nr) : (wfl vb vm vs vh vl vr).lookup f = none := by
  unfold wfl
  rw [lookup_putF, if_neg h6, lookup_putF, if_neg h5, lookup_putF, if_neg h4, lookup_putF, if_neg h3, lookup_putF, if_neg h2, lookup_putF, if_neg h1]
  rfl
/-- the dict from standings to their numbers -/
def kSt (s : Stg) : List Key := [kN s.1, kS s.2]
def hkvs (sts : List Stg) : List (List Key × V) := sts.zipIdx.map fun p => (kSt p.1, V.int (p.2 : Int))
theorem kSt_inj {s t : Stg} (h : kSt s = kSt t) : s = t := by
  unfold kSt at h
  injection h with h1 h2
  injection h2 with h2 _
  exact Prod.ext (kN_inj _ _ h1) (kS_inj _ _ h2)
theorem valV_idx {κ α : Type} [DecidableEq κ] (f : α → κ) (hf : ∀ a b, f a = f b → a = b) (w : Nat → V) : ∀ (l : List α) (n i : Nat) (a : α), l.Nodup → l[i]? = some a → valV ((l.zipIdx n).map fun p => (f p.1, w p.2)) (f a) = some (w (n + i))
  | [], n, i, a, _, h => by cases i <;> cases h
  | b :: l, n, 0, a, _, h => by
    cases h
    exact valV_pos rfl
  | b :: l, n, i + 1, a, hn, h => by
    rw [List.nodup_cons] at hn
    have hne : ¬ f b = f a := fun z => hn.1 (hf _ _ z ▸ List.mem_of_getElem? h)
    rw [List.zipIdx_cons, List.map_cons, valV_neg hne, valV_idx f hf w l (n + 1) i a hn.2 h]
    congr 2
    omega
theorem hkvs_at {sts : List Stg} (hn : sts.Nodup) {i : Nat} {s : Stg} (h : sts[i]? = some s) : valV (hkvs sts) (kSt s) = some (.int (i : Int)) := by
  have := valV_idx kSt (fun a b => kSt_inj) (fun n => V.int (n : Int)) sts 0 i s hn h
  rw [Nat.zero_add] at this
  exact this
/-- the dict from letters to their rows -/
def rkvs (ls : List Nat) (ps : List Addr) : List (Key × V) := (ls.zip ps).map fun p => (kS [p.1], V.ref p.2)
theorem rkvs_at : ∀ {ls : List Nat} {ps : List Addr}, ls.Nodup → ∀ {j x : Nat} {p : Addr}, ls[j]? = some x → ps[j]? = some p → valV (rkvs ls ps) (kS [x]) = some (.ref p)
  | [], _, _, j, _, _, h, _ => by cases j <;> cases h
  | _ :: _, [], _, j, _, _, _, h => by cases j <;> cases h
  | y :: ls, r :: ps, hn, 0, x, p, h1, h2 => by
    cases h1; cases h2
    exact valV_pos rfl
  | y :: ls, r :: ps, hn, j + 1, x, p, h1, h2 => by
    rw [List.nodup_cons] at hn
    have ne : ¬ kS [y] = kS [x] := fun z => by
      have := kS_inj _ _ z
      injection this with this _
      subst this
      exact hn.1 (List.mem_of_getElem? h1)
    show valV ((kS [y], V.ref r) :: rkvs ls ps) _ = _
    rw [valV_neg ne]
    exact rkvs_at hn.2 (j := j) h1 h2
/-- a web at sf, its rows L, all of them made since H0 -/
structure WAt (C : Addr) (H0 H : Hp) (b : Book) (m : Mach) (sts : List Stg) (L : List MatD) (sf : Addr) (dx : Addr) (vb vm : V) (as : Addr) (xs : List V) (ah rd : Addr) : Prop where
  fe : Fe H0 H
  ins : ∃ p0, (L.map (·.1))[0]? = some p0 ∧ H sf = some (.ins C dx (wfl vb vm (.ref as) (.ref ah) (.ref p0) (.ref rd)))
  hb : rBook H vb b
  hm : rMach H vm m
  hs : H as = some (.lst xs)
  hx : Al (rP rN rS) H xs sts
  hh : H ah = some (.dT (hkvs sts))
  hr : H rd = some (.dK (rkvs b.1 ((L.map (·.1)).tail)))
  mats : Mats H0 H L
  apart : as ∉ adr L
theorem WAt.f {C : Addr} {H0 H H' : Hp} {b : Book} {m : Mach} {sts : List Stg} {L : List MatD} {sf dx : Addr} {vb vm : V} {as : Addr} {xs : List V} {ah rd : Addr} (W : WAt C H0 H b m sts L sf dx vb vm as xs ah rd) (f : Fe H H') :
    WAt C H0 H' b m sts L sf dx vb vm as xs ah rd where
  fe := W.fe.trans f
  ins := let ⟨p0, a, b⟩ := W.ins; ⟨p0, a, f.k b⟩
  hb := Me.go W.hb f
  hm := Me.go W.hm f
  hs := f.k W.hs
  hx := Al.mo f W.hx
  hh := f.k W.hh
  hr := f.k W.hr
  mats := W.mats.fe f
  apart := W.apart
theorem map1_set {L : List MatD} {j : Nat} {m : MatD} (h : L[j]? = some m) (rows : List Row) : (L.set j (m.1, m.2.1, rows)).map (·.1) = L.map (·.1) := by
  apply List.ext_getElem?
  intro i
  rw [List.getElem?_map, List.getElem?_map, List.getElem?_set]
  by_cases e : j = i
  · subst e
    rw [if_pos rfl, if_pos (List.getElem?_eq_some_iff.mp h).1, h]; rfl
  · rw [if_neg e]
theorem WAt.put {C : Addr} {H0 H : Hp} {b : Book} {m : Mach} {sts : List Stg} {L : List MatD} {sf dx : Addr} {vb vm : V} {as : Addr} {xs : List V} {ah rd : Addr} (W : WAt C H0 H b m sts L sf dx vb vm as xs ah rd)
    {j h : Nat} {d : MatD} {q : Addr} {row : Row} {ys : List V} {v : V} {x : Nat × Nat × Unit} (hj : L[j]? = some d) (hq : d.2.1[h]? = some q) (hr : d.2.2[h]? = some row) (hy : H q = some (.lst ys)) (ha : Al rMv H ys row) (hv : rMv H v x) :
    WAt C H0 (upd H q (.lst (ys ++ [v]))) b m sts (L.set j (d.1, d.2.1, d.2.2.set h (row ++ [x]))) sf dx vb vm as xs ah rd := by
  have f : Fx [q] H (upd H q (.lst (ys ++ [v]))) := Fx.put hy (List.mem_singleton.mpr rfl) (fun _ z => nomatch z)
  have hdm := List.mem_of_getElem? hj
  have hqa : q ∈ adr L := mem_adr hdm (.inr (List.mem_of_getElem? hq))
  have h0 : H0 q = none := (W.mats.mat d hdm).new q (List.mem_of_getElem? hq)
  have nas : as ≠ q := fun z => W.apart (z ▸ hqa)
  obtain ⟨p0, i1, i2⟩ := W.ins
  exact ⟨W.fe.mut h0, ⟨p0, by rw [map1_set hj]; exact i1, by rw [upd_ne (ne_of i2 hy (fun z => nomatch z))]; exact i2⟩, Mo.mo (r := rBook) f W.hb, Mo.mo (r := rMach) f W.hm, by rw [upd_ne nas]; exact W.hs, Al.mo f W.hx,
    by rw [upd_ne (ne_of W.hh hy (fun z => nomatch z))]; exact W.hh, by rw [upd_ne (ne_of W.hr hy (fun z => nomatch z)), map1_set hj]; exact W.hr, W.mats.put hj hq hr hy ha hv, by rw [adr_set hj]; exact W.apart⟩
end Fm
namespace Fm
open PySem L2
abbrev keysOf (b : Book) : List (Option Nat) := none :: b.1.map some
/-- book, machine, standings as they must be -/
structure SOk (b : Book) (m : Mach) (sts : List Stg) : Prop where
  bk : BOk b
  mo : MOk m
  few : m.1 ≤ 60
  ln : b.1.Nodup
  ms : ∀ s ∈ m.2.2, s.2.1 ∈ b.1
  nd : sts.Nodup
  mem : ∀ s, s ∈ sts ↔ (s.1 < m.1 ∧ Rest b s.2)
theorem SOk.keys {b : Book} {m : Mach} {sts : List Stg} (o : SOk b m sts) : (keysOf b).Nodup := by
  rw [List.nodup_cons]
  refine ⟨by simp, ?_⟩
  have := o.ln
  clear o
  generalize b.1 = l at this ⊢
  induction l with
  | nil => exact List.nodup_nil
  | cons x l ih =>
    rw [List.nodup_cons] at this
    rw [List.map_cons, List.nodup_cons]
    refine ⟨fun h => ?_, ih this.2⟩
    obtain ⟨y, hy, e⟩ := List.mem_map.mp h
    cases e
    exact this.1 hy
theorem SOk.idx {b : Book} {m : Mach} {sts : List Stg} (o : SOk b m sts) {s : Stg} (h1 : s.1 < m.1) (h2 : Rest b s.2) : ∃ i : Nat, sts[i]? = some s := List.mem_iff_getElem?.mp ((o.mem s).mpr ⟨h1, h2⟩)
theorem SOk.web {b : Book} {m : Mach} {sts : List Stg} (o : SOk b m sts) : WOk (stepRows m.1 m.2.2) where
  few := by rw [stepRows_len]; exact o.few
  ok := fun row hrow p hp => by
    rw [stepRows_len]
    obtain ⟨q, hq, rfl⟩ := List.mem_map.mp hrow
    obtain ⟨s, hs, rfl⟩ := List.mem_map.mp hp
    exact (o.mo.st s (List.mem_filter.mp hs).1).2
theorem lead_em {m : Mach} (ok : MOk m) : ∀ {t : List Nat} {q p : Nat}, q < m.1 → (Lead (Ed (stepRows m.1 m.2.2)) t q p ↔ Lead (Em m) t q p)
  | [], _, _, _ => Iff.rfl
  | c :: t, q, p, h => by
    constructor
    · rintro ⟨r, h1, h2⟩
      have h3 := (stepRows_ed h).mp h1
      exact ⟨r, h3, (lead_em ok (ok.st _ h3).2).mp h2⟩
    · rintro ⟨r, h1, h2⟩
      exact ⟨r, (stepRows_ed h).mpr h1, (lead_em ok (ok.st _ h1).2).mpr h2⟩
theorem lead_em_lt {m : Mach} (ok : MOk m) {t : List Nat} {q p : Nat} (h : q < m.1) (l : Lead (Em m) t q p) : p < m.1 := lead_lt (fun _ _ _ h => (ok.st _ h).2) h l
/-- the web while its rows are filled; the machine's steps by state at a -/
structure PSt (C : Addr) (H0 H1 H : Hp) (b : Book) (m : Mach) (sts : List Stg) (L : List MatD) (S : Option Nat → Nat → Nat → Nat → Prop) (home t : Nat) (sf dx : Addr) (vb vm : V) (as : Addr) (xs : List V) (ah rd a : Addr) (rs : List Addr) : Prop where
  W : WAt C H0 H b m sts L sf dx vb vm as xs ah rd
  R : Rows sts.length (keysOf b) L S
  B : Bd home t L
  M : Mat (rP rC rN) H1 H a rs (stepRows m.1 m.2.2)
  old : ∀ x ∈ adr L, H1 x ≠ none
section
variable {C : Addr} {H0 H1 H : Hp} {b : Book} {m : Mach} {sts : List Stg} {L : List MatD} {S : Option Nat → Nat → Nat → Nat → Prop} {home t : Nat} {sf dx : Addr} {vb vm : V} {as : Addr} {xs : List V} {ah rd a : Addr} {rs : List Addr}
theorem PSt.f (p : PSt C H0 H1 H b m sts L S home t sf dx vb vm as xs ah rd a rs) {H' : Hp} (f : Fe H H') : PSt C H0 H1 H' b m sts L S home t sf dx vb vm as xs ah rd a rs := ⟨p.W.f f, p.R, p.B, p.M.fe f, p.old⟩
theorem PSt.imp (p : PSt C H0 H1 H b m sts L S home t sf dx vb vm as xs ah rd a rs) {S' : Option Nat → Nat → Nat → Nat → Prop} (h : ∀ k h to c, k ∈ keysOf b → h < sts.length → (S k h to c ↔ S' k h to c)) :
    PSt C H0 H1 H b m sts L S' home t sf dx vb vm as xs ah rd a rs := ⟨p.W, p.R.imp h, p.B, p.M, p.old⟩
/-- a row, found by its key and the standing's number -/
theorem PSt.at (p : PSt C H0 H1 H b m sts L S home t sf dx vb vm as xs ah rd a rs) {j : Nat} {k : Option Nat} (hk : (keysOf b)[j]? = some k) (hh : home < sts.length) :
    ∃ d q row ys, L[j]? = some d ∧ d.2.1[home]? = some q ∧ d.2.2[home]? = some row ∧ H q = some (.lst ys) ∧ Al rMv H ys row ∧ ys.length ≤ t ∧ H d.1 = some (.lst (d.2.1.map V.ref)) ∧ (L.map (·.1))[j]? = some d.1 := by
  have hj : j < L.length := by rw [p.R.len]; exact (List.getElem?_eq_some_iff.mp hk).1
  have hd : L[j]? = some L[j] := List.getElem?_eq_getElem hj
  have hm := List.mem_of_getElem? hd
  have hh' : home < (L[j]).2.2.length := by rw [p.R.rl _ hm]; exact hh
  have hr : (L[j]).2.2[home]? = some ((L[j]).2.2[home]'hh') := List.getElem?_eq_getElem hh'
  obtain ⟨q, ys, h1, _, h2, h3⟩ := (p.W.mats.mat _ hm).get hr
  exact ⟨L[j], q, _, ys, hd, h1, hr, h2, h3, by rw [h3.len]; exact p.B _ hm _ hr, (p.W.mats.mat _ hm).at_, by rw [List.getElem?_map, hd]; rfl⟩
/-- a move put behind it, made ahead in H' -/
theorem PSt.put (p : PSt C H0 H1 H b m sts L S home t sf dx vb vm as xs ah rd a rs) (o : SOk b m sts) {H' : Hp} (f : Fe H H') {j to c : Nat} {k : Option Nat} {d : MatD} {q U : Addr} {row : Row} {ys : List V} {y : V} (hk : (keysOf b)[j]? = some k) (hd : L[j]? = some d)
    (hq : d.2.1[home]? = some q) (hr : d.2.2[home]? = some row) (hy : H q = some (.lst ys)) (ha : Al rMv H ys row) (hU : H' U = some (.tup [.int (to : Int), .int (c : Int), y])) :
    ∃ L', PSt C H0 H1 (upd H' q (.lst (ys ++ [.ref U]))) b m sts L' (fun k' h' to' c' => S k' h' to' c' ∨ (k' = k ∧ h' = home ∧ to' = to ∧ c' = c)) home (t + 1) sf dx vb vm as xs ah rd a rs ∧ adr L' = adr L := by
  have p' := p.f f
  have hqa : q ∈ adr L := mem_adr (List.mem_of_getElem? hd) (.inr (List.mem_of_getElem? hq))
  have nq := p.old q hqa
  refine ⟨L.set j (d.1, d.2.1, d.2.2.set home (row ++ [(to, c, ())])), ⟨p'.W.put hd hq hr (f.k hy) (Al.mo f ha) ⟨U, _, _, _, rfl, hU, rfl, rfl, trivial⟩, p.R.put o.keys hk hd hr, p.B.put hd hr, ?_, ?_⟩, adr_set hd _⟩
  · have fx : Fx [q] H' (upd H' q (.lst (ys ++ [.ref U]))) := Fx.put (f.k hy) (List.mem_singleton.mpr rfl) (fun _ z => nomatch z)
    refine p'.M.keep fx (fun z => nq ?_) (fun r hr z => nq ?_)
    · rw [← List.mem_singleton.mp z]; exact p.M.newp
    · rw [← List.mem_singleton.mp z]; exact p.M.new r hr
  · rw [adr_set hd]; exact p.old
end
/-- the move of an edit from the state q -/
def EdE (m : Mach) (e : List Nat × List Nat × Nat) (k : Option Nat) (q : Nat) (s' : Stg) (c : Nat) : Prop := c = e.2.2 ∧ Lead (Em m) e.2.1 q s'.1 ∧ match k with
  | none => e.1 = [] ∧ s'.2 = []
  | some x => e.1 = x :: s'.2
def spPutEdits (C : Addr) : Sp := fun vs H Q _ => ∃ (H0 H1 : Hp) (b : Book) (m : Mach) (sts : List Stg) (L : List MatD) (S : Option Nat → Nat → Nat → Nat → Prop) (home t q : Nat) (sf dx : Addr) (vb vm : V) (as : Addr) (xs : List V) (ah rd a : Addr) (rs : List Addr),
  vs = [.ref sf, .ref a, .int (home : Int), .int (q : Int)] ∧ PSt C H0 H1 H b m sts L S home t sf dx vb vm as xs ah rd a rs ∧ SOk b m sts ∧ sts[home]? = some (q, []) ∧ t ≤ 1000 ∧
  ∀ (H' : Hp) (L' : List MatD) (t' : Nat), PSt C H0 H1 H' b m sts L' (fun k h to c => S k h to c ∨ (h = home ∧ ∃ s', sts[to]? = some s' ∧ ∃ e, e ∈ b.2 ∧ EdE m e k q s' c)) home t' sf dx vb vm as xs ah rd a rs → adr L' = adr L → Q .non H'
theorem str_nil : ("" : Str) = ⟨([] : List Nat).toArray⟩ := by decide +kernel
theorem at_head (l : List Nat) (x : Nat) : atI (⟨(x :: l).toArray⟩ : Str).cps.toList 0 = some x := by
  show atI (x :: l) ((0 : Nat) : Int) = some x
  exact atI_nat rfl
theorem cut_tail (l : List Nat) (x : Nat) : cutS ⟨(x :: l).toArray⟩ (some 1) none = ⟨l.toArray⟩ := by
  have := cut_from (x :: l) 1
  exact this
theorem dec_str_nil (l : List Nat) : decide (V.str ⟨l.toArray⟩ = V.str "") = decide (l = []) := by
  rw [str_nil]
  by_cases h : l = []
  · subst h; rw [decide_eq_true rfl, decide_eq_true rfl]
  · rw [decide_eq_false h, decide_eq_false]
    intro z
    exact h (str_inj (V.str.inj z))
section
variable {P : Program} {w : World} {K : PySem.W.Frag} {g : Str → Option Value} {base : Heap}
theorem ok_MoveWeb_put_edits (T : Txt K g) : FnOk P w K g base CX0 3 T.d_MoveWeb_put_edits.f T.d_MoveWeb_put_edits.fd P_MoveWeb_put_edits (spPutEdits T.c_MoveWeb) := by
  refine T.d_MoveWeb_put_edits.F.ok sc_MoveWeb_put_edits (fun vs H Q E h => ?_) (fun cdv A outer s H vs Q E hr h => ?_)
  · obtain ⟨_, _, _, _, _, _, _, _, _, _, _, _, _, _, _, _, _, _, _, _, rfl, _⟩ := h
    rfl
  · obtain ⟨H0, H1, b, m, sts, L, S, home, t, q, sf, dx, vb, vm, as, xs, ah, rd, a, rs, rfl, p, o, hst, ht, kk⟩ := h
    have hu := hu_of hr
    refine ⟨_, (pss_one (ps_for PassesOwn.never rfl (ki_tup (K := K) rfl (pe_ix (kx_tup (K := K) rfl) (ke_fld (K := K) rfl (pv 0) rfl) pe_int (fun _ _ => rfl))) (kg_tup (K := K) 3 rfl rfl (pgs_cons (pg_name (i := 4) sc_MoveWeb_put_edits.nd rfl (by first | exact Or.inl rfl | exact Or.inr rfl)) (pgs_cons (pg_name (i := 5) sc_MoveWeb_put_edits.nd rfl (by first | exact Or.inl rfl | exact Or.inr rfl)) (pgs_cons (pg_name (i := 6) sc_MoveWeb_put_edits.nd rfl (by first | exact Or.inl rfl | exact Or.inr rfl)) pgs_nil))))
      (pss_one (ps_for PassesOwn.never rfl (ki_tup (K := K) rfl (pe_call (ok_states_along T) (hr.mono (by decide)) rfl T.d_states_along.mg T.d_states_along.kp T.d_states_along.b .nil pass0 (pa_cons (pv 1) (pa_cons (pe_tup (pa_cons (pv 3) pa_nil)) (pa_cons (pv 5) pa_nil))))) (pg_name (i := 7) sc_MoveWeb_put_edits.nd rfl (by first | exact Or.inl rfl | exact Or.inr rfl))
        (pss_one (ps_if (pt_cmpR op_eq (pv 4) pe_str (nomark _))
          (pss_one (ps_expr (ke_bm (K := K) rfl PySem.F.plainAttrs_list PySem.F.slot_list_append PySem.F.type_list_append mt_append (pe_ix (kx_list (K := K) rfl) (ke_fld (K := K) rfl (pv 0) rfl) (pv 2) (fun _ _ => rfl)) (pa_cons (pe_tup (pa_cons (pe_dget hu (ke_fld (K := K) rfl (pv 0) rfl) (pe_tup (pa_cons (pv 7) (pa_cons pe_str pa_nil))) (fun _ _ => rfl)) (pa_cons (pv 6) (pa_cons (pe_tup (pa_cons (pv 4) (pa_cons (pv 5) pa_nil))) pa_nil)))) pa_nil))))
          (pss_one (ps_expr (ke_bm (K := K) rfl PySem.F.plainAttrs_list PySem.F.slot_list_append PySem.F.type_list_append mt_append (pe_ix (kx_list (K := K) rfl) (pe_dget hu (ke_fld (K := K) rfl (pv 0) rfl) (pe_ix ix_str (pv 4) pe_int (fun _ _ => rfl)) (fun _ _ => rfl)) (pv 2) (fun _ _ => rfl)) (pa_cons (pe_tup (pa_cons (pe_dget hu (ke_fld (K := K) rfl (pv 0) rfl) (pe_tup (pa_cons (pv 7) (pa_cons (pe_slice sl_str (pv 4) (po_some pe_int) po_none) pa_nil))) (fun _ _ => rfl)) (pa_cons (pv 6) (pa_cons (pe_tup (pa_cons (pv 4) (pa_cons (pv 5) pa_nil))) pa_nil)))) pa_nil)))))))))), ?_⟩
    obtain ⟨p0, hp0, hins⟩ := p.W.ins
    obtain ⟨bk, vl, ve, rfl, hbk, rfl, hed⟩ := id p.W.hb
    obtain ⟨c, eds, rfl, hc, heds⟩ := id hed
    have hhome : home < sts.length := (List.getElem?_eq_some_iff.mp hst).1
    have hq : q < m.1 := ((o.mem (q, [])).mp (List.mem_of_getElem? hst)).1
    have hn := o.bk.few
    refine ⟨_, rfl, sf, _, dx, _, _, rfl, hins, T.cl_MoveWeb, T.na_MoveWeb_book, wfl_b, bk, _, _, _, rfl, rfl, SqT.of hbk, rfl, c, rfl, ⟨_, SqT.of hc⟩, for_tup (K := K) (a := c) (xs := eds) (fun i σ' H' => ∃ (L' : List MatD) (t' : Nat) (o1 o2 o3 o4 : Option V),
      σ' = [some (.ref sf), some (.ref a), some (.int (home : Int)), some (.int (q : Int)), o1, o2, o3, o4] ∧ H' c = some (.tup eds) ∧ Al (rP3 rS rS rN) H' eds b.2 ∧ t' ≤ t + 60 * i ∧ adr L' = adr L ∧
      PSt T.c_MoveWeb H0 H1 H' b m sts L' (fun k h to c => S k h to c ∨ (h = home ∧ ∃ s', sts[to]? = some s' ∧ ∃ e, e ∈ b.2.take i ∧ EdE m e k q s' c)) home t' sf dx (.ref bk) vm as xs ah rd a rs)
      ⟨L, t, none, none, none, none, rfl, hc, heds, by omega, rfl, p.imp fun k h to c _ _ => ⟨.inl, fun z => z.elim id fun ⟨_, s', _, e, he, _⟩ => nomatch he⟩⟩ (fun i σ' H' _ ⟨_, _, _, _, _, _, _, e, _⟩ => SqT.of e) ?_ ?_⟩
    · rintro i x σ' H' hx ⟨L1, t1, o1, o2, o3, o4, rfl, hcH, hedsH, ht1, hadr, p1⟩
      obtain ⟨ed, hed, hxr⟩ := hedsH.get hx
      obtain ⟨u, x1, x2, x3, rfl, hu2, rfl, rfl, rfl⟩ := id hxr
      have hem : ed ∈ b.2 := List.mem_of_getElem? hed
      refine ⟨u, _, rfl, SqT.of hu2, rfl, _, _, rfl, _, _, rfl, _, _, rfl, rfl, ?_⟩
      -- for to in states_along(rows, (state,), write)
      refine ⟨_, rfl, _, rfl, by show 1 ≤ sizeLine; decide, fun U hU => ?_⟩
      have fU : Fe H' (upd H' U (.tup [.int (q : Int)])) := Fe.new hU
      have p2 := p1.f fU
      refine ⟨_, rfl, stepRows m.1 m.2.2, [q], ed.2.1, .ref a, .ref U, rfl, p2.M.rl, ⟨U, _, rfl, upd_same, .cons rfl .nil⟩, o.web, ?_, by simp, fun v H2 l e2 hl hln hm => ?_⟩
      · intro r hr
        rw [List.mem_singleton.mp hr, stepRows_len]; exact hq
      obtain ⟨al, ls, rfl, hal, hls⟩ := id hl
      have p3 := p2.f e2
      have f2 := fU.trans e2
      have hm' : ∀ r, r ∈ l ↔ Lead (Em m) ed.2.1 q r := fun r => by
        rw [hm r, ← lead_em o.mo hq]
        exact ⟨fun ⟨z, h1, h2⟩ => by rw [List.mem_singleton.mp h1] at h2; exact h2, fun h => ⟨q, List.mem_singleton.mpr rfl, h⟩⟩
      refine ⟨al, rfl, ⟨_, SqT.of hal⟩, for_tup (K := K) (a := al) (xs := ls) (fun j σ' H' => ∃ (L' : List MatD) (o4 : Option V),
        σ' = [some (.ref sf), some (.ref a), some (.int (home : Int)), some (.int (q : Int)), some (.str ⟨ed.1.toArray⟩), some (.str ⟨ed.2.1.toArray⟩), some (.int (ed.2.2 : Int)), o4] ∧ H' c = some (.tup eds) ∧ Al (rP3 rS rS rN) H' eds b.2 ∧ H' al = some (.tup ls) ∧ adr L' = adr L ∧
        PSt T.c_MoveWeb H0 H1 H' b m sts L' (fun k h to c => (S k h to c ∨ (h = home ∧ ∃ s', sts[to]? = some s' ∧ ∃ e, e ∈ b.2.take i ∧ EdE m e k q s' c)) ∨ (h = home ∧ ∃ s', sts[to]? = some s' ∧ s'.1 ∈ l.take j ∧ EdE m ed k q s' c)) home (t1 + j) sf dx (.ref bk) vm as xs ah rd a rs)
        ⟨L1, o4, rfl, f2.k hcH, Al.mo f2 hedsH, hal, hadr, p3.imp fun k h to c _ _ => ⟨.inl, fun z => z.elim id fun ⟨_, s', _, e, _⟩ => nomatch e⟩⟩ (fun i σ' H' _ ⟨_, _, _, _, _, e, _⟩ => SqT.of e) ?_ ?_⟩
      · rintro j x σ' H3 hx ⟨L3, o4, rfl, hc3, heds3, hal3, hadr3, p4⟩
        obtain ⟨r, hr2, rfl⟩ := hls.get hx
        have hrl : Lead (Em m) ed.2.1 q r := (hm' r).mp (List.mem_of_getElem? hr2)
        have hrm : r < m.1 := lead_em_lt o.mo hq hrl
        have hjl : l.take (j + 1) = l.take j ++ [r] := by rw [List.take_add_one, hr2]; rfl
        have hlen60 : j < 60 := by
          have h1 := nodup_below m.1 l hln fun r hr => lead_em_lt o.mo hq ((hm' r).mp hr)
          have h2 := (List.getElem?_eq_some_iff.mp hr2).1
          have h3 := o.few
          omega
        have hil : i < 60 := by
          have := (List.getElem?_eq_some_iff.mp hed).1
          omega
        obtain ⟨p0', hp0', hins3⟩ := p4.W.ins
        refine ⟨_, rfl, rfl, _, rfl, ?_⟩
        rw [dec_str_nil]
        cases hrd : ed.1 with
        | nil =>
          rw [decide_eq_true rfl]
          refine iteT ?_
          obtain ⟨idx, hidx⟩ := o.idx (s := (r, [])) hrm (.inl rfl)
          obtain ⟨d, qq, row, ys, hd, hqq, hrow, hys, hal4, hyl, hd1, hd2⟩ := p4.at (j := 0) (k := none) rfl hhome
          have e0 : p0' = d.1 := by rw [hp0'] at hd2; exact Option.some.inj hd2
          subst e0
          -- self.silent[home].append((self.homes[(to, "")], cost, (read, write)))
          refine ⟨_, rfl, sf, _, dx, _, _, rfl, hins3, T.cl_MoveWeb, T.na_MoveWeb_silent, wfl_l, _, rfl, d.1, _, _, .ref qq, rfl, rfl, SqL.of hd1, atI_nat (by rw [List.getElem?_map, hqq]; rfl), .inl ⟨rfl, _, SqL.of hys⟩, ?_⟩
          refine ⟨_, rfl, sf, _, dx, _, _, rfl, hins3, T.cl_MoveWeb, T.na_MoveWeb_homes, wfl_h, _, rfl, by show 2 ≤ sizeLine; decide, fun U1 hU1 => ?_⟩
          have f1 : Fe H3 (upd H3 U1 (.tup [.int (r : Int), .str ""])) := Fe.new hU1
          have g1 : upd H3 U1 (.tup [.int (r : Int), .str ""]) U1 = some (.tup ((kSt (r, [])).map kV)) := by rw [upd_same, str_nil]; rfl
          refine ⟨ah, .int (idx : Int), rfl, by rw [← hkvs_at o.nd hidx]; exact DGet.t (f1.k p4.W.hh) g1, ?_⟩
          refine ⟨_, rfl, _, rfl, _, rfl, by show 2 ≤ sizeLine; decide, fun U2 hU2 => ?_⟩
          have f2' := f1.trans (Fe.new (o := .tup [.str ⟨([] : List Nat).toArray⟩, .str ⟨ed.2.1.toArray⟩]) hU2)
          refine ⟨by show 3 ≤ sizeLine; decide, fun U3 hU3 => ?_⟩
          have f3 := f2'.trans (Fe.new (o := .tup [.int (idx : Int), .int (ed.2.2 : Int), .ref U2]) hU3)
          refine ⟨qq, ys, _, rfl, rfl, f3.k hys, by rw [sizeLine_eq]; omega, ?_⟩
          obtain ⟨L', p5, ha5⟩ := p4.put o f3 rfl hd hqq hrow hys hal4 (to := idx) (c := ed.2.2) (y := .ref U2) upd_same
          have cne : c ≠ qq := by
            intro z; rw [z, hys] at hc3; cases hc3
          have ane : al ≠ qq := by
            intro z; rw [z, hys] at hal3; cases hal3
          have fq : Fx [qq] _ _ := Fx.put (o := .lst (ys ++ [.ref U3])) (f3.k hys) (List.mem_singleton.mpr rfl) (fun _ z => nomatch z)
          refine ⟨L', _, rfl, by rw [upd_ne cne]; exact f3.k hc3, Al.mo fq (Al.mo f3 heds3), by rw [upd_ne ane]; exact f3.k hal3, by rw [ha5, hadr3], p5.imp fun k h to c hk hh => ?_⟩
          rw [hjl]
          constructor
          · rintro ((z | ⟨rfl, s', h1, h2, h3⟩) | ⟨rfl, rfl, rfl, rfl⟩)
            · exact .inl z
            · exact .inr ⟨rfl, s', h1, List.mem_append_left _ h2, h3⟩
            · exact .inr ⟨rfl, (r, []), hidx, List.mem_append_right _ (List.mem_singleton.mpr rfl), rfl, hrl, hrd, rfl⟩
          · rintro (z | ⟨rfl, s', h1, h2, h3⟩)
            · exact .inl (.inl z)
            · rcases List.mem_append.mp h2 with h2 | h2
              · exact .inl (.inr ⟨rfl, s', h1, h2, h3⟩)
              · have e1 : s'.1 = r := List.mem_singleton.mp h2
                obtain ⟨hc', _, hk'⟩ := h3
                cases k with
                | none =>
                  have e2 : s' = (r, []) := Prod.ext e1 hk'.2
                  subst e2
                  exact .inr ⟨rfl, rfl, nd_ix o.nd h1 hidx, hc'⟩
                | some x =>
                  have hk' : ed.1 = x :: s'.2 := hk'
                  rw [hrd] at hk'; cases hk'
        | cons x rd' =>
          rw [decide_eq_false (by intro z; cases z)]
          refine iteF ?_
          have hxl : x ∈ b.1 := o.bk.lets ed hem x (by rw [hrd]; exact List.mem_cons_self)
          obtain ⟨jj, hjj⟩ := List.mem_iff_getElem?.mp hxl
          have hrest : Rest b rd' := by
            cases rd' with
            | nil => exact .inl rfl
            | cons y rd'' => exact .inr ⟨ed, 1, hem, by omega, by rw [hrd]; simp, by rw [hrd]; rfl⟩
          obtain ⟨idx, hidx⟩ := o.idx (s := (r, rd')) hrm hrest
          have hkj : (keysOf b)[jj + 1]? = some (some x) := by
            show (b.1.map some)[jj]? = _
            rw [List.getElem?_map, hjj]; rfl
          obtain ⟨d, qq, row, ys, hd, hqq, hrow, hys, hal4, hyl, hd1, hd2⟩ := p4.at hkj hhome
          have hd2' : ((L3.map (·.1)).tail)[jj]? = some d.1 := by rw [List.getElem?_tail]; exact hd2
          -- self.reading[read[0]][home].append((self.homes[(to, read[1:])], cost, (read, write)))
          refine ⟨_, rfl, sf, _, dx, _, _, rfl, hins3, T.cl_MoveWeb, T.na_MoveWeb_reading, wfl_r, _, rfl, _, 0, x, rfl, rfl, by rw [slen, sizeLine_eq]; have := o.bk.len ed hem; rw [hrd] at this; omega, at_head rd' x, ?_⟩
          refine ⟨rd, .ref d.1, rfl, by rw [← rkvs_at o.ln hjj hd2']; exact DGet.k (k := kS [x]) p4.W.hr, _, rfl, d.1, _, _, .ref qq, rfl, rfl, SqL.of hd1, atI_nat (by rw [List.getElem?_map, hqq]; rfl), .inl ⟨rfl, _, SqL.of hys⟩, ?_⟩
          refine ⟨_, rfl, sf, _, dx, _, _, rfl, hins3, T.cl_MoveWeb, T.na_MoveWeb_homes, wfl_h, _, rfl, _, rfl, 1, rfl, _, rfl, by rw [slen, sizeLine_eq]; have := o.bk.len ed hem; rw [hrd] at this; omega, by show 2 ≤ sizeLine; decide, fun U1 hU1 => ?_⟩
          rw [cut_tail]
          have f1 : Fe H3 (upd H3 U1 (.tup [.int (r : Int), .str ⟨rd'.toArray⟩])) := Fe.new hU1
          have g1 : upd H3 U1 (.tup [.int (r : Int), .str ⟨rd'.toArray⟩]) U1 = some (.tup ((kSt (r, rd')).map kV)) := by rw [upd_same]; rfl
          refine ⟨ah, .int (idx : Int), rfl, by rw [← hkvs_at o.nd hidx]; exact DGet.t (f1.k p4.W.hh) g1, ?_⟩
          refine ⟨_, rfl, _, rfl, _, rfl, by show 2 ≤ sizeLine; decide, fun U2 hU2 => ?_⟩
          have f2' := f1.trans (Fe.new (o := .tup [.str ⟨(x :: rd').toArray⟩, .str ⟨ed.2.1.toArray⟩]) hU2)
          refine ⟨by show 3 ≤ sizeLine; decide, fun U3 hU3 => ?_⟩
          have f3 := f2'.trans (Fe.new (o := .tup [.int (idx : Int), .int (ed.2.2 : Int), .ref U2]) hU3)
          refine ⟨qq, ys, _, rfl, rfl, f3.k hys, by rw [sizeLine_eq]; omega, ?_⟩
          obtain ⟨L', p5, ha5⟩ := p4.put o f3 hkj hd hqq hrow hys hal4 (to := idx) (c := ed.2.2) (y := .ref U2) upd_same
          have cne : c ≠ qq := by
            intro z; rw [z, hys] at hc3; cases hc3
          have ane : al ≠ qq := by
            intro z; rw [z, hys] at hal3; cases hal3
          have fq : Fx [qq] _ _ := Fx.put (o := .lst (ys ++ [.ref U3])) (f3.k hys) (List.mem_singleton.mpr rfl) (fun _ z => nomatch z)
          refine ⟨L', _, rfl, by rw [upd_ne cne]; exact f3.k hc3, Al.mo fq (Al.mo f3 heds3), by rw [upd_ne ane]; exact f3.k hal3, by rw [ha5, hadr3], p5.imp fun k h to c hk hh => ?_⟩
          rw [hjl]
          constructor
          · rintro ((z | ⟨rfl, s', h1, h2, h3⟩) | ⟨rfl, rfl, rfl, rfl⟩)
            · exact .inl z
            · exact .inr ⟨rfl, s', h1, List.mem_append_left _ h2, h3⟩
            · exact .inr ⟨rfl, (r, rd'), hidx, List.mem_append_right _ (List.mem_singleton.mpr rfl), rfl, hrl, hrd⟩
          · rintro (z | ⟨rfl, s', h1, h2, h3⟩)
            · exact .inl (.inl z)
            · rcases List.mem_append.mp h2 with h2 | h2
              · exact .inl (.inr ⟨rfl, s', h1, h2, h3⟩)
              · have e1 : s'.1 = r := List.mem_singleton.mp h2
                obtain ⟨hc', _, hk'⟩ := h3
                cases k with
                | none =>
                  rw [hrd] at hk'; cases hk'.1
                | some y =>
                  have hk' : ed.1 = y :: s'.2 := hk'
                  rw [hrd] at hk'
                  injection hk' with e2 e3
                  have e4 : s' = (r, rd') := Prod.ext e1 e3.symm
                  subst e4
                  exact .inr ⟨by rw [e2], rfl, nd_ix o.nd h1 hidx, hc'⟩
      · rintro σ' H3 ⟨L3, o4, rfl, hc3, heds3, hal3, hadr3, p4⟩
        have hl60 : l.length ≤ 60 := by
          have h1 := nodup_below m.1 l hln fun r hr => lead_em_lt o.mo hq ((hm' r).mp hr)
          have h3 := o.few
          omega
        refine ⟨L3, _, _, _, _, _, rfl, hc3, heds3, by rw [hls.len]; omega, hadr3, p4.imp fun k h to c _ _ => ?_⟩
        rw [hls.len, List.take_length, List.take_add_one, hed]
        constructor
        · rintro ((z | ⟨rfl, s', h1, e, h2, h3⟩) | ⟨rfl, s', h1, h2, h3⟩)
          · exact .inl z
          · exact .inr ⟨rfl, s', h1, e, List.mem_append_left _ h2, h3⟩
          · exact .inr ⟨rfl, s', h1, ed, List.mem_append_right _ (List.mem_singleton.mpr rfl), h3⟩
        · rintro (z | ⟨rfl, s', h1, e, h2, h3⟩)
          · exact .inl (.inl z)
          · rcases List.mem_append.mp h2 with h2 | h2
            · exact .inl (.inr ⟨rfl, s', h1, e, h2, h3⟩)
            · have e2 : e = ed := List.mem_singleton.mp h2
              subst e2
              exact .inr ⟨rfl, s', h1, (hm' _).mpr h3.2.1, h3⟩
    · rintro σ' H' ⟨L', t', o1, o2, o3, o4, rfl, _, _, _, hadr, p'⟩
      refine kk H' L' t' (p'.imp fun k h to c _ _ => ?_) hadr
      rw [heds.len, List.take_length]
end
end Fm
namespace Fm
open PySem L2
/-- which moves lead from the standing of number h: those of the document -/
def Told (b : Book) (m : Mach) (sts : List Stg) (k : Option Nat) (h to c : Nat) : Prop := ∃ s s', sts[h]? = some s ∧ sts[to]? = some s' ∧ Mv b m k s s' c
def spPutMoves (C : Addr) : Sp := fun vs H Q _ => ∃ (H0 H1 : Hp) (b : Book) (m : Mach) (sts : List Stg) (L : List MatD) (sf dx : Addr) (vb vm : V) (as : Addr) (xs : List V) (ah rd a : Addr) (rs : List Addr),
  vs = [.ref sf, .ref a] ∧ PSt C H0 H1 H b m sts L (fun _ _ _ _ => False) 0 0 sf dx vb vm as xs ah rd a rs ∧ SOk b m sts ∧ sts.length ≤ 100000 ∧
  ∀ (H' : Hp) (L' : List MatD), WAt C H0 H' b m sts L' sf dx vb vm as xs ah rd → Rows sts.length (keysOf b) L' (Told b m sts) → Q .non H'
theorem mv_rest {b : Book} {m : Mach} {k : Option Nat} {q y : Nat} {r : List Nat} {s' : Stg} {c : Nat} : Mv b m k (q, y :: r) s' c ↔ (k = some y ∧ s' = (q, r) ∧ c = 0) := by
  cases k with
  | none => exact ⟨fun h => (by cases h.1), fun h => (by cases h.1)⟩
  | some x =>
    constructor
    · rintro (⟨r', h1, h2, h3⟩ | ⟨h, _⟩ | ⟨h, _⟩)
      · cases h1; exact ⟨rfl, h2, h3⟩
      · cases h
      · cases h
    · rintro ⟨h1, h2, h3⟩
      cases h1
      exact .inl ⟨r, rfl, h2, h3⟩
theorem mv_nil {b : Book} {m : Mach} {k : Option Nat} {q : Nat} {s' : Stg} {c : Nat} : Mv b m k (q, []) s' c ↔ ((∃ x, k = some x ∧ s'.2 = [] ∧ Em m q x s'.1 ∧ c = 0) ∨ ∃ e, e ∈ b.2 ∧ EdE m e k q s' c) := by
  cases k with
  | none =>
    constructor
    · rintro ⟨_, h2, wr, h3, h4⟩
      exact .inr ⟨_, h3, rfl, h4, rfl, h2⟩
    · rintro (⟨x, h, _⟩ | ⟨⟨rd, wr, c'⟩, h1, rfl, h2, h3, h4⟩)
      · cases h
      · have h3 : rd = [] := h3
        subst h3
        exact ⟨rfl, h4, wr, h1, h2⟩
  | some x =>
    constructor
    · rintro (⟨r', h1, _⟩ | ⟨_, h1, h2, h3⟩ | ⟨_, rd, wr, h1, h2, h3⟩)
      · cases h1
      · exact .inl ⟨x, rfl, h1, h2, h3⟩
      · exact .inr ⟨_, h1, rfl, h3, by rw [h2]⟩
    · rintro (⟨y, h, h1, h2, h3⟩ | ⟨⟨rd, wr, c'⟩, h1, rfl, h2, h3⟩)
      · cases h
        exact .inr (.inl ⟨rfl, h1, h2, h3⟩)
      · have h3 : rd = x :: s'.2 := h3
        subst h3
        exact .inr (.inr ⟨rfl, s'.2, wr, h1, rfl, h2⟩)
section
variable {P : Program} {w : World} {K : PySem.W.Frag} {g : Str → Option Value} {base : Heap}
theorem ok_MoveWeb_put_moves (T : Txt K g) : FnOk P w K g base CX0 4 T.d_MoveWeb_put_moves.f T.d_MoveWeb_put_moves.fd P_MoveWeb_put_moves (spPutMoves T.c_MoveWeb) := by
  refine T.d_MoveWeb_put_moves.F.ok sc_MoveWeb_put_moves (fun vs H Q E h => ?_) (fun cdv A outer s H vs Q E hr h => ?_)
  · obtain ⟨_, _, _, _, _, _, _, _, _, _, _, _, _, _, _, _, rfl, _⟩ := h
    rfl
  · obtain ⟨H0, H1, b, m, sts, L, sf, dx, vb, vm, as, xs, ah, rd, a, rs, rfl, p, o, hsz, kk⟩ := h
    have hu := hu_of hr
    refine ⟨_, (pss_one (ps_for PassesOwn.never rfl (ki_enum (K := K) rfl rfl T.z_enumerate (pa_cons (ke_fld (K := K) rfl (pv 0) rfl) pa_nil)) (kg_tup (K := K) 2 rfl rfl (pgs_cons (pg_name (i := 2) sc_MoveWeb_put_moves.nd rfl (by first | exact Or.inl rfl | exact Or.inr rfl)) (pgs_cons (kg_tup (K := K) 2 rfl rfl (pgs_cons (pg_name (i := 3) sc_MoveWeb_put_moves.nd rfl (by first | exact Or.inl rfl | exact Or.inr rfl)) (pgs_cons (pg_name (i := 4) sc_MoveWeb_put_moves.nd rfl (by first | exact Or.inl rfl | exact Or.inr rfl)) pgs_nil))) pgs_nil)))
      (pss_one (ps_if (kt_truth (K := K) rfl (pv 4))
        (pss_one (ps_expr (ke_bm (K := K) rfl PySem.F.plainAttrs_list PySem.F.slot_list_append PySem.F.type_list_append mt_append (pe_ix (kx_list (K := K) rfl) (pe_dget hu (ke_fld (K := K) rfl (pv 0) rfl) (pe_ix ix_str (pv 4) pe_int (fun _ _ => rfl)) (fun _ _ => rfl)) (pv 2) (fun _ _ => rfl)) (pa_cons (pe_tup (pa_cons (pe_dget hu (ke_fld (K := K) rfl (pv 0) rfl) (pe_tup (pa_cons (pv 3) (pa_cons (pe_slice sl_str (pv 4) (po_some pe_int) po_none) pa_nil))) (fun _ _ => rfl)) (pa_cons pe_int (pa_cons pe_non pa_nil)))) pa_nil))))
        (pss_cons (ps_for PassesOwn.never rfl (ki_list (K := K) rfl (pe_ix (kx_list (K := K) rfl) (pv 1) (pv 3) (fun _ _ => rfl))) (kg_tup (K := K) 2 rfl rfl (pgs_cons (pg_name (i := 5) sc_MoveWeb_put_moves.nd rfl (by first | exact Or.inl rfl | exact Or.inr rfl)) (pgs_cons (pg_name (i := 6) sc_MoveWeb_put_moves.nd rfl (by first | exact Or.inl rfl | exact Or.inr rfl)) pgs_nil)))
          (pss_one (ps_expr (ke_bm (K := K) rfl PySem.F.plainAttrs_list PySem.F.slot_list_append PySem.F.type_list_append mt_append (pe_ix (kx_list (K := K) rfl) (pe_dget hu (ke_fld (K := K) rfl (pv 0) rfl) (pv 5) (fun _ _ => rfl)) (pv 2) (fun _ _ => rfl)) (pa_cons (pe_tup (pa_cons (pe_dget hu (ke_fld (K := K) rfl (pv 0) rfl) (pe_tup (pa_cons (pv 6) (pa_cons pe_str pa_nil))) (fun _ _ => rfl)) (pa_cons pe_int (pa_cons (pe_tup (pa_cons (pv 5) (pa_cons (pv 5) pa_nil))) pa_nil)))) pa_nil)))))
        (pss_one (ps_expr (pe_meth (pv 0) T.cl_MoveWeb T.d_MoveWeb_put_edits.m (ok_MoveWeb_put_edits T) (hr.mono (by decide)) T.d_MoveWeb_put_edits.b .nil pass0 (pa_cons (pv 1) (pa_cons (pv 2) (pa_cons (pv 3) pa_nil))))))))))), ?_⟩
    obtain ⟨p0, hp0, hins⟩ := p.W.ins
    refine ⟨_, rfl, sf, _, dx, _, _, rfl, hins, T.cl_MoveWeb, T.na_MoveWeb_standings, wfl_s, as, xs, rfl, SqL.of p.W.hs, for_enum (xs := xs) (fun i σ' H' => ∃ (L' : List MatD) (o1 o2 o3 o4 o5 : Option V),
      σ' = [some (.ref sf), some (.ref a), o1, o2, o3, o4, o5] ∧ adr L' = adr L ∧ PSt T.c_MoveWeb H0 H1 H' b m sts L' (fun k h to c => h < i ∧ Told b m sts k h to c) i 0 sf dx vb vm as xs ah rd a rs)
      ⟨L, none, none, none, none, none, rfl, rfl, p.imp fun k h to c _ _ => ⟨fun z => z.elim, fun z => by omega⟩⟩ (fun i σ' H' _ ⟨_, _, _, _, _, _, _, _, p'⟩ => p'.W.hs) ?_ ?_⟩
    · rintro i x σ' H' U hx ⟨L1, o1, o2, o3, o4, o5, rfl, hadr, p1⟩ hU
      obtain ⟨⟨q, rest⟩, hst, hxr⟩ := p1.W.hx.get hx
      obtain ⟨u, x1, x2, rfl, hu2, rfl, rfl⟩ := id hxr
      have hih : i < sts.length := (List.getElem?_eq_some_iff.mp hst).1
      have hsm := (o.mem (q, rest)).mp (List.mem_of_getElem? hst)
      have hq : q < m.1 := hsm.1
      have fU : Fe H' (upd H' U (.tup [.int (i : Int), .ref u])) := Fe.new hU
      refine ⟨U, _, rfl, SqT.of upd_same, rfl, _, _, rfl, _, _, rfl, u, _, rfl, SqT.of (fU.k hu2), rfl, _, _, rfl, _, _, rfl, rfl, rfl, ?_⟩
      have p2 := p1.f fU
      -- what is due behind this standing
      have fin : ∀ {H2 : Hp} {L2 : List MatD} {S2 : Option Nat → Nat → Nat → Nat → Prop} {t2 : Nat}, PSt T.c_MoveWeb H0 H1 H2 b m sts L2 S2 i t2 sf dx vb vm as xs ah rd a rs →
          (∀ k h to c, k ∈ keysOf b → (S2 k h to c ↔ (h < i ∧ Told b m sts k h to c) ∨ (h = i ∧ ∃ s', sts[to]? = some s' ∧ Mv b m k (q, rest) s' c))) →
          PSt T.c_MoveWeb H0 H1 H2 b m sts L2 (fun k h to c => h < i + 1 ∧ Told b m sts k h to c) (i + 1) 0 sf dx vb vm as xs ah rd a rs := fun p3 hS => by
        have R := p3.R.imp (S' := fun k h to c => h < i + 1 ∧ Told b m sts k h to c) fun k h to c hk _ => by
          rw [hS k h to c hk]
          constructor
          · rintro (⟨h1, h2⟩ | ⟨rfl, s', h1, h2⟩)
            · exact ⟨by omega, h2⟩
            · exact ⟨by omega, _, s', hst, h1, h2⟩
          · rintro ⟨h1, h2⟩
            by_cases e : h = i
            · subst e
              obtain ⟨s, s', h3, h4, h5⟩ := h2
              rw [hst] at h3; cases h3
              exact .inr ⟨rfl, s', h4, h5⟩
            · exact .inl ⟨by omega, h2⟩
        exact ⟨p3.W, R, Bd.none_ R fun k to c h => by omega, p3.M, p3.old⟩
      refine ⟨_, rfl, _, ⟨by rw [slen, sizeLine_eq]; rcases hsm.2 with h | ⟨e, k, h1, h2, h3, h4⟩; (have h : rest = [] := h; rw [h]; simp); (have h4 : rest = e.1.drop k := h4; rw [h4, List.length_drop]; have := o.bk.len e h1; omega), rfl⟩, ?_⟩
      rw [slen]
      cases rest with
      | cons y r =>
        refine iteT ?_
        have hyl : y ∈ b.1 := by
          rcases hsm.2 with h | ⟨e, k, h1, h2, h3, h4⟩
          · cases h
          · have h4 : y :: r = e.1.drop k := h4
            exact o.bk.lets e h1 y (List.mem_of_mem_drop (h4 ▸ List.mem_cons_self))
        have hrr : Rest b r := by
          rcases hsm.2 with h | ⟨e, k, h1, h2, h3, h4⟩
          · cases h
          · have h4 : y :: r = e.1.drop k := h4
            cases r with
            | nil => exact .inl rfl
            | cons z r' =>
              refine .inr ⟨e, k + 1, h1, by omega, ?_, ?_⟩
              · have := congrArg List.length h4
                rw [List.length_drop] at this
                simp at this
                omega
              · rw [← List.drop_drop, ← h4]; rfl
        have hrl : r.length ≤ 3 := by
          rcases hrr with h | ⟨e, k, h1, h2, h3, h4⟩
          · rw [h]; simp
          · rw [h4, List.length_drop]; have := o.bk.len e h1; omega
        obtain ⟨jj, hjj⟩ := List.mem_iff_getElem?.mp hyl
        have hkj : (keysOf b)[jj + 1]? = some (some y) := by
          show (b.1.map some)[jj]? = _
          rw [List.getElem?_map, hjj]; rfl
        obtain ⟨idx, hidx⟩ := o.idx (s := (q, r)) hq hrr
        obtain ⟨d, qq, row, ys, hd, hqq, hrow, hys, hal4, hyl2, hd1, hd2⟩ := p2.at hkj hih
        have hd2' : ((L1.map (·.1)).tail)[jj]? = some d.1 := by rw [List.getElem?_tail]; exact hd2
        obtain ⟨p0', hp0', hins3⟩ := p2.W.ins
        refine ⟨_, rfl, sf, _, dx, _, _, rfl, hins3, T.cl_MoveWeb, T.na_MoveWeb_reading, wfl_r, _, rfl, _, 0, y, rfl, rfl, by rw [slen, sizeLine_eq, List.length_cons]; omega, at_head r y, ?_⟩
        refine ⟨rd, .ref d.1, rfl, by rw [← rkvs_at o.ln hjj hd2']; exact DGet.k (k := kS [y]) p2.W.hr, _, rfl, d.1, _, _, .ref qq, rfl, rfl, SqL.of hd1, atI_nat (by rw [List.getElem?_map, hqq]; rfl), .inl ⟨rfl, _, SqL.of hys⟩, ?_⟩
        refine ⟨_, rfl, sf, _, dx, _, _, rfl, hins3, T.cl_MoveWeb, T.na_MoveWeb_homes, wfl_h, _, rfl, _, rfl, 1, rfl, _, rfl, by rw [slen, sizeLine_eq, List.length_cons]; omega, by show 2 ≤ sizeLine; decide, fun U1 hU1 => ?_⟩
        rw [cut_tail]
        have f1 := Fe.new (o := .tup [.int (q : Int), .str ⟨r.toArray⟩]) hU1
        refine ⟨ah, .int (idx : Int), rfl, by rw [← hkvs_at o.nd hidx]; exact DGet.t (k := kSt (q, r)) (f1.k p2.W.hh) upd_same, ?_⟩
        refine ⟨by show 3 ≤ sizeLine; decide, fun U3 hU3 => ?_⟩
        have f3 := f1.trans (Fe.new (o := .tup [.int (idx : Int), .int 0, .non]) hU3)
        refine ⟨qq, ys, _, rfl, rfl, f3.k hys, by rw [sizeLine_eq]; omega, ?_⟩
        obtain ⟨L', p5, ha5⟩ := p2.put o f3 hkj hd hqq hrow hys hal4 (to := idx) (c := 0) (y := .non) upd_same
        refine ⟨L', _, _, _, _, _, rfl, by rw [ha5, hadr], fin p5 fun k h to c hk => ?_⟩
        constructor
        · rintro (z | ⟨rfl, rfl, rfl, rfl⟩)
          · exact .inl z
          · exact .inr ⟨rfl, _, hidx, mv_rest.mpr ⟨rfl, rfl, rfl⟩⟩
        · rintro (z | ⟨rfl, s', h1, h2⟩)
          · exact .inl z
          · obtain ⟨rfl, rfl, rfl⟩ := mv_rest.mp h2
            exact .inr ⟨rfl, rfl, nd_ix o.nd h1 hidx, rfl⟩
      | nil =>
        refine iteF ?_
        -- for letter, to in rows[state]
        have hrow0 := stepRows_at (n := m.1) (steps := m.2.2) hq
        obtain ⟨rr, cells, hrr, _, hcells, hals⟩ := p2.M.get hrow0
        refine ⟨_, rfl, _, rfl, a, _, _, .ref rr, rfl, rfl, SqL.of p2.M.at_, atI_nat (by rw [List.getElem?_map, hrr]; rfl), rr, rfl, ⟨_, SqL.of hcells⟩, for_lst (xs := cells) (fun j σ' H' => ∃ (L' : List MatD) (o4 o5 : Option V),
          σ' = [some (.ref sf), some (.ref a), some (.int (i : Int)), some (.int (q : Int)), some (.str ⟨([] : List Nat).toArray⟩), o4, o5] ∧ adr L' = adr L ∧ H' rr = some (.lst cells) ∧ Al (rP rC rN) H' cells ((m.2.2.filter fun s => s.1 == q).map (·.2)) ∧
          PSt T.c_MoveWeb H0 H1 H' b m sts L' (fun k h to c => (h < i ∧ Told b m sts k h to c) ∨ (h = i ∧ ∃ x s', k = some x ∧ sts[to]? = some s' ∧ s'.2 = [] ∧ (x, s'.1) ∈ ((m.2.2.filter fun s => s.1 == q).map (·.2)).take j ∧ c = 0)) i j sf dx vb vm as xs ah rd a rs)
          ⟨L1, o4, o5, rfl, hadr, hcells, hals, p2.imp fun k h to c _ _ => ⟨.inl, fun z => z.elim id fun ⟨_, x, s', _, _, _, e, _⟩ => nomatch e⟩⟩ (fun i σ' H' _ ⟨_, _, _, _, _, e, _⟩ => e) ?_ ?_⟩
        · rintro j x σ' H3 hx ⟨L3, o4, o5, rfl, hadr3, hc3, hal3, p4⟩
          obtain ⟨⟨y, r⟩, hyr, hxr⟩ := hal3.get hx
          obtain ⟨u4, x3, x4, rfl, hu4, rfl, rfl⟩ := id hxr
          have hmem : (q, y, r) ∈ m.2.2 := by
            obtain ⟨s, h1, h2⟩ := List.mem_map.mp (List.mem_of_getElem? hyr)
            obtain ⟨h3, h4⟩ := List.mem_filter.mp h1
            have h4 : s.1 = q := by simpa using h4
            obtain ⟨s1, s2⟩ := s
            cases h2; cases h4
            exact h3
          have hrm : r < m.1 := (o.mo.st _ hmem).2
          have hyl : y ∈ b.1 := o.ms _ hmem
          have hj100 : j < 100 := by
            have h1 := (List.getElem?_eq_some_iff.mp hyr).1
            rw [List.length_map] at h1
            have h2 := List.length_filter_le (fun s : Nat × Nat × Nat => s.1 == q) m.2.2
            have h3 := o.mo.fewS
            omega
          obtain ⟨jj, hjj⟩ := List.mem_iff_getElem?.mp hyl
          have hkj : (keysOf b)[jj + 1]? = some (some y) := by
            show (b.1.map some)[jj]? = _
            rw [List.getElem?_map, hjj]; rfl
          obtain ⟨idx, hidx⟩ := o.idx (s := (r, [])) hrm (.inl rfl)
          obtain ⟨d, qq, row, ys, hd, hqq, hrow, hys, hal4, hyl2, hd1, hd2⟩ := p4.at hkj hih
          have hd2' : ((L3.map (·.1)).tail)[jj]? = some d.1 := by rw [List.getElem?_tail]; exact hd2
          obtain ⟨p0', hp0', hins3⟩ := p4.W.ins
          refine ⟨u4, _, rfl, SqT.of hu4, rfl, _, _, rfl, _, _, rfl, rfl, ?_⟩
          refine ⟨_, rfl, sf, _, dx, _, _, rfl, hins3, T.cl_MoveWeb, T.na_MoveWeb_reading, wfl_r, _, rfl, ?_⟩
          refine ⟨rd, .ref d.1, rfl, by rw [← rkvs_at o.ln hjj hd2']; exact DGet.k (k := kS [y]) p4.W.hr, _, rfl, d.1, _, _, .ref qq, rfl, rfl, SqL.of hd1, atI_nat (by rw [List.getElem?_map, hqq]; rfl), .inl ⟨rfl, _, SqL.of hys⟩, ?_⟩
          refine ⟨_, rfl, sf, _, dx, _, _, rfl, hins3, T.cl_MoveWeb, T.na_MoveWeb_homes, wfl_h, _, rfl, by show 2 ≤ sizeLine; decide, fun U1 hU1 => ?_⟩
          have f1 := Fe.new (o := .tup [.int (r : Int), .str ""]) hU1
          have g1 : upd H3 U1 (.tup [.int (r : Int), .str ""]) U1 = some (.tup ((kSt (r, [])).map kV)) := by rw [upd_same, str_nil]; rfl
          refine ⟨ah, .int (idx : Int), rfl, by rw [← hkvs_at o.nd hidx]; exact DGet.t (f1.k p4.W.hh) g1, ?_⟩
          refine ⟨_, rfl, _, rfl, by show 2 ≤ sizeLine; decide, fun U2 hU2 => ?_⟩
          have f2 := f1.trans (Fe.new (o := .tup [.str ⟨#[y]⟩, .str ⟨#[y]⟩]) hU2)
          refine ⟨by show 3 ≤ sizeLine; decide, fun U3 hU3 => ?_⟩
          have f3 := f2.trans (Fe.new (o := .tup [.int (idx : Int), .int 0, .ref U2]) hU3)
          refine ⟨qq, ys, _, rfl, rfl, f3.k hys, by rw [sizeLine_eq]; omega, ?_⟩
          obtain ⟨L', p5, ha5⟩ := p4.put o f3 hkj hd hqq hrow hys hal4 (to := idx) (c := 0) (y := .ref U2) upd_same
          have rne : rr ≠ qq := by
            intro z
            have h1 := p4.old qq (mem_adr (List.mem_of_getElem? hd) (.inr (List.mem_of_getElem? hqq)))
            exact h1 (z ▸ p2.M.new rr (List.mem_of_getElem? hrr))
          have fq : Fx [qq] _ _ := Fx.put (o := .lst (ys ++ [.ref U3])) (f3.k hys) (List.mem_singleton.mpr rfl) (fun _ z => nomatch z)
          refine ⟨L', _, _, rfl, by rw [ha5, hadr3], by rw [upd_ne rne]; exact f3.k hc3, Al.mo fq (Al.mo f3 hal3), p5.imp fun k h to c hk hh => ?_⟩
          rw [List.take_add_one, hyr]
          constructor
          · rintro ((z | ⟨rfl, x, s', h1, h2, h3, h4, h5⟩) | ⟨rfl, rfl, rfl, rfl⟩)
            · exact .inl z
            · exact .inr ⟨rfl, x, s', h1, h2, h3, List.mem_append_left _ h4, h5⟩
            · exact .inr ⟨rfl, y, _, rfl, hidx, rfl, List.mem_append_right _ (List.mem_singleton.mpr rfl), rfl⟩
          · rintro (z | ⟨rfl, x, s', h1, h2, h3, h4, h5⟩)
            · exact .inl (.inl z)
            · rcases List.mem_append.mp h4 with h4 | h4
              · exact .inl (.inr ⟨rfl, x, s', h1, h2, h3, h4, h5⟩)
              · have e := List.mem_singleton.mp h4
                injection e with e1 e2
                have e3 : s' = (r, []) := Prod.ext e2 h3
                subst e3 e1
                exact .inr ⟨h1, rfl, nd_ix o.nd h2 hidx, h5⟩
        · rintro σ' H3 ⟨L3, o4, o5, rfl, hadr3, hc3, hal3, p4⟩
          obtain ⟨p0', hp0', hins3⟩ := p4.W.ins
          have hlen : cells.length ≤ 100 := by
            have h1 := hals.len
            rw [List.length_map] at h1
            have h2 := List.length_filter_le (fun s : Nat × Nat × Nat => s.1 == q) m.2.2
            have h3 := o.mo.fewS
            omega
          -- self.put_edits(rows, home, state)
          refine ⟨_, rfl, sf, dx, _, rfl, hins3, wfl_no (by decide +kernel) (by decide +kernel) (by decide +kernel) (by decide +kernel) (by decide +kernel) (by decide +kernel), _, rfl, _, rfl, _, rfl, ?_⟩
          refine ⟨H0, H1, b, m, sts, L3, _, i, cells.length, q, sf, dx, vb, vm, as, xs, ah, rd, a, rs, rfl, p4, o, hst, by omega, fun H4 L4 t4 p5 ha5 => ?_⟩
          refine ⟨L4, _, _, _, _, _, rfl, by rw [ha5, hadr3], fin p5 fun k h to c hk => ?_⟩
          rw [hals.len, List.take_length]
          constructor
          · rintro ((z | ⟨rfl, x, s', h1, h2, h3, h4, h5⟩) | ⟨rfl, s', h1, h2⟩)
            · exact .inl z
            · refine .inr ⟨rfl, s', h2, mv_nil.mpr (.inl ⟨x, h1, h3, ?_, h5⟩)⟩
              obtain ⟨s, h6, h7⟩ := List.mem_map.mp h4
              obtain ⟨h8, h9⟩ := List.mem_filter.mp h6
              have h9 : s.1 = q := by simpa using h9
              obtain ⟨s1, s2⟩ := s
              have h7 : s2 = (x, s'.1) := h7
              subst h7
              cases h9
              exact h8
            · exact .inr ⟨rfl, s', h1, mv_nil.mpr (.inr h2)⟩
          · rintro (z | ⟨rfl, s', h1, h2⟩)
            · exact .inl (.inl z)
            · rcases mv_nil.mp h2 with ⟨x, h3, h4, h5, h6⟩ | h3
              · exact .inl (.inr ⟨rfl, x, s', h3, h1, h4, List.mem_map.mpr ⟨(q, x, s'.1), List.mem_filter.mpr ⟨h5, by simp⟩, rfl⟩, h6⟩)
              · exact .inr ⟨rfl, s', h1, h3⟩
    · rintro σ' H' ⟨L', o1, o2, o3, o4, o5, rfl, hadr, p'⟩
      refine kk H' L' p'.W (p'.R.imp fun k h to c _ hh => ?_)
      rw [p'.W.hx.len]
      exact ⟨fun z => z.2, fun z => ⟨hh, z⟩⟩
end
end Fm
namespace Fm
open PySem L2
section
variable {g : TG} {tt : TT} {tk tv : TE} {vs : List Nat} {σ : L2.St} {H1 : Hp} {D : Addr} {Qd : Hp → Prop} {J : It} {o : HO}
/-- the turns of a dict's comprehension whose walk has n items -/
theorem dc_by (n : Nat) (Pv : Nat → Hp → Prop) (h0 : Pv 0 (upd H1 D o)) (hgo : ∀ i H, i < n → Pv i H → J.go i H) (hstop : ∀ H, Pv n H → J.stop n H)
    (hs : ∀ i x H H', i < n → Pv i H → J.yld i H x H' → g x (wipe σ vs) H' fun σ2 H2 => wipe σ2 vs = wipe σ vs ∧ tt σ2 H2 fun b H3 =>
      if b = true then tk σ2 H3 fun y H4 => tv σ2 H4 fun z H5 => ∃ H6, DPut H5 D y z H6 ∧ Pv (i + 1) H6 else Pv (i + 1) H3) (hd : ∀ H, Pv n H → Qd H) :
    ∃ W : Nat → Nat → Hp → Prop, (∃ m, W 0 m (upd H1 D o)) ∧ ∀ i m H, W i m H →
      (J.stop i H ∧ Qd H) ∨ (J.go i H ∧ ∃ Nx : Hp → Prop, (∀ H', Nx H' → ∃ m', m' < m ∧ W (i + 1) m' H') ∧ ∀ x H', J.yld i H x H' → g x (wipe σ vs) H' fun σ2 H2 => wipe σ2 vs = wipe σ vs ∧ tt σ2 H2 fun b H3 =>
        if b = true then tk σ2 H3 fun y H4 => tv σ2 H4 fun z H5 => ∃ H6, DPut H5 D y z H6 ∧ Nx H6 else Nx H3) := by
  refine ⟨fun i m H => i + m = n ∧ Pv i H, ⟨n, by omega, h0⟩, ?_⟩
  rintro i m H ⟨e, h⟩
  by_cases hi : i < n
  · exact .inr ⟨hgo i H hi h, fun H2 => Pv (i + 1) H2, fun H2 q => ⟨m - 1, by omega, by omega, q⟩, fun x H' y => hs i x H H' hi h y⟩
  · have e2 : i = n := by omega
    subst e2
    exact .inl ⟨hstop _ h, hd _ h⟩
end
def stsOf (n : Nat) (rs : List (List Nat)) : List Stg := (List.range n).flatMap fun q => rs.map fun r => (q, r)
theorem stsOf_succ (n : Nat) (rs : List (List Nat)) : stsOf (n + 1) rs = stsOf n rs ++ rs.map fun r => (n, r) := by
  unfold stsOf
  rw [List.range_succ, List.flatMap_append]
  simp
theorem stsOf_mem {n : Nat} {rs : List (List Nat)} {s : Stg} : s ∈ stsOf n rs ↔ (s.1 < n ∧ s.2 ∈ rs) := by
  unfold stsOf
  rw [List.mem_flatMap]
  constructor
  · rintro ⟨q, h1, h2⟩
    obtain ⟨r, h3, rfl⟩ := List.mem_map.mp h2
    exact ⟨List.mem_range.mp h1, h3⟩
  · rintro ⟨h1, h2⟩
    exact ⟨s.1, List.mem_range.mpr h1, List.mem_map.mpr ⟨s.2, h2, rfl⟩⟩
theorem stsOf_len (n : Nat) (rs : List (List Nat)) : (stsOf n rs).length = n * rs.length := by
  induction n with
  | zero => simp [stsOf]
  | succ n ih => rw [stsOf_succ, List.length_append, ih, List.length_map, Nat.succ_mul]
theorem stsOf_nd {n : Nat} {rs : List (List Nat)} (h : rs.Nodup) : (stsOf n rs).Nodup := by
  induction n with
  | zero => exact List.nodup_nil
  | succ n ih =>
    rw [stsOf_succ, List.nodup_append]
    refine ⟨ih, ?_, fun a ha b hb e => ?_⟩
    · rw [List.nodup_iff_pairwise_ne, List.pairwise_map]
      exact (List.nodup_iff_pairwise_ne.mp h).imp fun h z => h (congrArg Prod.snd z)
    · subst e
      obtain ⟨r, _, rfl⟩ := List.mem_map.mp hb
      have := (stsOf_mem.mp ha).1
      simp at this
theorem hkvs_put {sts : List Stg} (hn : sts.Nodup) {i : Nat} {s : Stg} (h : sts[i]? = some s) : putK (hkvs (sts.take i)) (kSt s) (.int (i : Int)) = hkvs (sts.take (i + 1)) := by
  have hil := (List.getElem?_eq_some_iff.mp h).1
  have hnot : valV (hkvs (sts.take i)) (kSt s) = none := by
    cases e : valV (hkvs (sts.take i)) (kSt s) with
    | none => rfl
    | some v =>
      have hk := valV_in e
      unfold hkvs at hk
      rw [List.map_map] at hk
      obtain ⟨⟨t, j⟩, h1, h2⟩ := List.mem_map.mp hk
      have h3 : kSt t = kSt s := h2
      have h4 := kSt_inj h3
      subst h4
      obtain ⟨k, h5, h6⟩ := List.mem_iff_getElem.mp h1
      rw [List.getElem_zipIdx] at h6
      injection h6 with h6 _
      have h7 : k < i := by
        rw [List.length_zipIdx, List.length_take] at h5; omega
      rw [List.getElem_take] at h6
      have := nd_ix hn (by rw [List.getElem?_eq_getElem (show k < sts.length by omega), h6]) h
      omega
  rw [putK_new _ hnot, List.take_add_one, h]
  unfold hkvs
  rw [List.zipIdx_append, List.map_append]
  congr 1
  show [_] = [_]
  rw [List.length_take, Nat.min_eq_left (by omega)]
  simp
theorem rkvs_put {ls : List Nat} {ps : List Addr} {c : Nat} {p : Addr} (hl : ls.length = ps.length) (h : c ∉ ls) : putK (rkvs ls ps) (kS [c]) (.ref p) = rkvs (ls ++ [c]) (ps ++ [p]) := by
  have hnot : valV (rkvs ls ps) (kS [c]) = none := by
    cases e : valV (rkvs ls ps) (kS [c]) with
    | none => rfl
    | some v =>
      have hk := valV_in e
      unfold rkvs at hk
      rw [List.map_map] at hk
      obtain ⟨⟨x, q⟩, h1, h2⟩ := List.mem_map.mp hk
      have h3 : kS [x] = kS [c] := h2
      have := kS_inj _ _ h3
      injection this with this _
      subst this
      exact absurd (List.of_mem_zip h1).1 h
  rw [putK_new _ hnot]
  unfold rkvs
  rw [List.zip_append hl, List.map_append]
  rfl
theorem Mats.keep {H0 H H' : Hp} {L : List MatD} (M : Mats H0 H L) {N : List Addr} (f : Fx N H H') (h : ∀ a ∈ adr L, a ∉ N) : Mats H0 H' L :=
  ⟨fun m hm => (M.mat m hm).keep f (h _ (mem_adr hm (.inl rfl))) (fun q hq => h _ (mem_adr hm (.inr hq))), M.nd⟩
theorem Mats.known {H0 H : Hp} {L : List MatD} (M : Mats H0 H L) {a : Addr} (h : a ∈ adr L) : ∃ ys, H a = some (.lst ys) := by
  obtain ⟨m, hm, ha⟩ := List.mem_flatMap.mp h
  rcases List.mem_cons.mp ha with rfl | ha
  · exact ⟨_, (M.mat m hm).at_⟩
  · obtain ⟨i, hi⟩ := List.mem_iff_getElem?.mp ha
    have hl : i < m.2.2.length := by rw [← (M.mat m hm).len]; exact (List.getElem?_eq_some_iff.mp hi).1
    obtain ⟨ys, h1, _⟩ := (M.mat m hm).row i a _ hi (List.getElem?_eq_getElem hl)
    exact ⟨ys, h1⟩
theorem Mat.old {α : Type} {r : Rp α} {H0 H1 H : Hp} {p : Addr} {qs : List Addr} {rows : List (List α)} (M : Mat r H1 H p qs rows) (e : Fe H0 H1) : Mat r H0 H p qs rows :=
  ⟨M.at_, M.nd, M.ne, fun q h => e.free (M.new q h), e.free M.newp, M.len, M.row⟩
/-- one more list of rows, all of it new -/
theorem Mats.more {H0 H1 H : Hp} {L : List MatD} (M : Mats H0 H1 L) (e : Fe H0 H1) (f : Fe H1 H) {p : Addr} {qs : List Addr} {rows : List Row} (N : Mat rMv H1 H p qs rows) : Mats H0 H (L ++ [(p, qs, rows)]) := by
  refine ⟨fun m hm => ?_, ?_⟩
  · rcases List.mem_append.mp hm with hm | hm
    · exact (M.mat m hm).fe f
    · rw [List.mem_singleton.mp hm]
      exact N.old e
  · unfold adr
    rw [List.flatMap_append, List.nodup_append]
    refine ⟨M.nd, ?_, fun a ha b hb e => ?_⟩
    · show ((p :: qs) ++ []).Nodup
      rw [List.append_nil, List.nodup_cons]
      exact ⟨N.ne, N.nd⟩
    · subst e
      obtain ⟨ys, hy⟩ := M.known ha
      have hb : a ∈ (p :: qs) ++ [] := hb
      rw [List.append_nil] at hb
      have : H1 a = none := by
        rcases List.mem_cons.mp hb with rfl | h
        · exact N.newp
        · exact N.new a h
      rw [this] at hy; cases hy
/-- a book and a machine as asked -/
structure POk (b : Book) (m : Mach) : Prop where
  bk : BOk b
  mo : MOk m
  few : m.1 ≤ 60
  ln : b.1.Nodup
  ms : ∀ s ∈ m.2.2, s.2.1 ∈ b.1
  e30 : b.2.length ≤ 30
def spInit (C : Addr) : Sp := fun vs H Q _ => ∃ (H0 : Hp) (b : Book) (m : Mach) (sf dx : Addr) (vb vm : V), vs = [.ref sf, vb, vm] ∧ Fe H0 H ∧ H0 sf = none ∧ H sf = some (.ins C dx []) ∧ rBook H0 vb b ∧ rMach H0 vm m ∧ POk b m ∧
  ∀ (H' : Hp) (rs : List (List Nat)) (L : List MatD) (as : Addr) (xs : List V) (ah rd : Addr), PyProof.Rows.sortedS (rs.map sS) = true → SOk b m (stsOf m.1 rs) → (stsOf m.1 rs).length ≤ 4000 →
    WAt C H0 H' b m (stsOf m.1 rs) L sf dx vb vm as xs ah rd → Rows (stsOf m.1 rs).length (keysOf b) L (Told b m (stsOf m.1 rs)) → Q .non H'
theorem nodup_take_not {l : List Nat} (h : l.Nodup) {i c : Nat} (hi : l[i]? = some c) : c ∉ l.take i := by
  intro hm
  obtain ⟨k, h1, h2⟩ := List.mem_iff_getElem.mp hm
  rw [List.length_take] at h1
  rw [List.getElem_take] at h2
  have := nd_ix h (by rw [List.getElem?_eq_getElem (show k < l.length by omega), h2]) hi
  omega
section
variable {P : Program} {w : World} {K : PySem.W.Frag} {g : Str → Option Value} {base : Heap}
theorem ok_MoveWeb_init (T : Txt K g) : FnOk P w K g base CX0 5 T.d_MoveWeb_init.f T.d_MoveWeb_init.fd P_MoveWeb_init (spInit T.c_MoveWeb) := by
  refine T.d_MoveWeb_init.F.ok sc_MoveWeb_init (fun vs H Q E h => ?_) (fun cdv A outer s H vs Q E hr h => ?_)
  · obtain ⟨_, _, _, _, _, _, _, rfl, _⟩ := h
    rfl
  · obtain ⟨H0, b, m, sf, dx, vb, vm, rfl, e0, nsf, hins, hb, hm, ok, kk⟩ := h
    have hu := hu_of hr
    refine ⟨_, (pss_cons (ks_fld (K := K) rfl (pv 0) (pv 1) rfl)
    (pss_cons (ks_fld (K := K) rfl (pv 0) (pv 2) rfl)
    (pss_cons (ps_set (i := 3) sc_MoveWeb_init.nd rfl (by first | exact Or.inl rfl | exact Or.inr rfl) (pe_call (ok_rests_of T) (hr.mono (by decide)) rfl T.d_rests_of.mg T.d_rests_of.kp T.d_rests_of.b .nil pass0 (pa_cons (pv 1) pa_nil)))
    (pss_cons (ks_fld (K := K) rfl (pv 0) (pe_lc2 (own := [("state", 4), ("rest", 5)]) (vs1 := [5]) rfl sc_MoveWeb_init.nd (pi_range1 rfl T.z_range (pa_cons (pe_ix (kx_tup (K := K) rfl) (pv 2) pe_int (fun _ _ => rfl)) pa_nil)) (blkOk_by (N := N_MoveWeb_init) (sc := defScope s_MoveWeb_init) (by decide +kernel)) (by decide) (fun _ _ _ _ _ => by exact (pg_name (i := 4) sc_MoveWeb_init.nd rfl (by first | exact Or.inl rfl | exact Or.inr rfl))) (fun _ _ _ _ _ => by exact pts_nil) (fun _ _ _ _ _ => by exact (ki_list (K := K) rfl (pv 3))) (fun _ _ _ _ _ => by exact (pg_name (i := 5) sc_MoveWeb_init.nd rfl (by first | exact Or.inl rfl | exact Or.inr rfl))) (fun _ _ _ _ _ => by exact pts_nil) (fun _ _ _ _ _ => by exact (pe_tup (pa_cons (pv 4) (pa_cons (pv 5) pa_nil))))) rfl)
    (pss_cons (ks_fld (K := K) rfl (pv 0) (ke_dc (o := .dT []) (.inr rfl) hr.units0 (own := [("home", 6), ("standing", 7)]) rfl sc_MoveWeb_init.nd (ki_enum (K := K) rfl rfl T.z_enumerate (pa_cons (ke_fld (K := K) rfl (pv 0) rfl) pa_nil)) (blkOk_by (N := N_MoveWeb_init) (sc := defScope s_MoveWeb_init) (by decide +kernel)) (fun _ _ _ _ _ => by exact (kg_tup (K := K) 2 rfl rfl (pgs_cons (pg_name (i := 6) sc_MoveWeb_init.nd rfl (by first | exact Or.inl rfl | exact Or.inr rfl)) (pgs_cons (pg_name (i := 7) sc_MoveWeb_init.nd rfl (by first | exact Or.inl rfl | exact Or.inr rfl)) pgs_nil)))) (fun _ _ _ _ _ => by exact pts_nil) (fun _ _ _ _ _ => by exact (pv 7)) (fun _ _ _ _ _ => by exact (pv 6))) rfl)
    (pss_cons (ks_fld (K := K) rfl (pv 0) (pe_lc (own := [("_", 8)]) rfl sc_MoveWeb_init.nd (ki_list (K := K) rfl (ke_fld (K := K) rfl (pv 0) rfl)) (blkOk_by (N := N_MoveWeb_init) (sc := defScope s_MoveWeb_init) (by decide +kernel)) (fun _ _ _ _ _ => by exact (pg_name (i := 8) sc_MoveWeb_init.nd rfl (by first | exact Or.inl rfl | exact Or.inr rfl))) (fun _ _ _ _ _ => by exact pts_nil) (fun _ _ _ _ _ => by exact (pe_lst pa_nil))) rfl)
    (pss_cons (ks_fld (K := K) rfl (pv 0) (ke_dc (o := .dK []) (.inl rfl) hr.units0 (own := [("letter", 9)]) rfl sc_MoveWeb_init.nd (pi_str (pe_ix (kx_tup (K := K) rfl) (pv 1) pe_int (fun _ _ => rfl))) (blkOk_by (N := N_MoveWeb_init) (sc := defScope s_MoveWeb_init) (by decide +kernel)) (fun _ _ _ _ _ => by exact (pg_name (i := 9) sc_MoveWeb_init.nd rfl (by first | exact Or.inl rfl | exact Or.inr rfl))) (fun _ _ _ _ _ => by exact pts_nil) (fun _ _ _ _ _ => by exact (pv 9)) (fun _ _ _ _ _ => by exact (pe_lc (own := [("_", 8)]) rfl sc_MoveWeb_init.nd (ki_list (K := K) rfl (ke_fld (K := K) rfl (pv 0) rfl)) (by exact blkOk_by (N := N_MoveWeb_init) (by kernel_rfl)) (fun _ _ _ _ _ => by exact (pg_name (i := 8) sc_MoveWeb_init.nd rfl (by first | exact Or.inl rfl | exact Or.inr rfl))) (fun _ _ _ _ _ => by exact pts_nil) (fun _ _ _ _ _ => by exact (pe_lst pa_nil))))) rfl)
    (pss_one (ps_expr (pe_meth (pv 0) T.cl_MoveWeb T.d_MoveWeb_put_moves.m (ok_MoveWeb_put_moves T) (hr.mono (by decide)) T.d_MoveWeb_put_moves.b .nil pass0 (pa_cons (pe_call (ok_steps_by_state T) (hr.mono (by decide)) rfl T.d_steps_by_state.mg T.d_steps_by_state.kp T.d_steps_by_state.b .nil pass0 (pa_cons (pv 2) pa_nil)) pa_nil))))))))))), ?_⟩
    have cl := T.cl_MoveWeb
    -- self.book = book; self.machine = machine
    refine ⟨_, rfl, _, rfl, sf, _, dx, [], rfl, hins, cl, T.na_MoveWeb_book, by show 0 < 1000; decide, ?_⟩
    have e1 := e0.mut (o := .ins T.c_MoveWeb dx (putF nb vb [])) nsf
    refine ⟨_, rfl, _, rfl, sf, _, dx, _, rfl, upd_same, cl, T.na_MoveWeb_machine, by show 1 < 1000; decide, ?_⟩
    have e2 := e1.mut (o := .ins T.c_MoveWeb dx (putF nm vm (putF nb vb []))) nsf
    have i2 : upd (upd H sf (.ins T.c_MoveWeb dx (putF nb vb []))) sf (.ins T.c_MoveWeb dx (putF nm vm (putF nb vb []))) sf = some (.ins T.c_MoveWeb dx (putF nm vm (putF nb vb []))) := upd_same
    generalize upd (upd H sf (.ins T.c_MoveWeb dx (putF nb vb []))) sf (.ins T.c_MoveWeb dx (putF nm vm (putF nb vb []))) = H2 at e2 i2
    -- rests
    refine ⟨_, rfl, b, vb, rfl, Me.go hb e2, ok.bk, ok.e30, fun vr H3 rs e3 hrs hrn hrsort hrm hrl => ?_⟩
    have e03 := e2.trans e3
    have i3 := e3.k i2
    obtain ⟨ar, rxs, rfl, har, hrx⟩ := id hrs
    have hm3 := Me.go hm e03
    obtain ⟨am, x0, y0, z0, rfl, ham, rfl, _, _⟩ := id hm3
    have hrl61 : rs.length ≤ 61 := by have := ok.e30; omega
    have hfew := ok.few
    -- self.standings
    refine ⟨_, rfl, am, _, _, _, rfl, rfl, SqT.of ham, rfl, _, rfl, by omega, by omega, fun D hD => ⟨fun i k H' => i + k = m.1 ∧ Cmp (rP rN rS) H3 D (stsOf i rs) H', ⟨m.1, by omega, Cmp.start hD⟩, ?_⟩⟩
    rintro i k H' ⟨hik, c⟩
    by_cases hi : i < m.1
    · refine .inr ⟨by show i < (m.1 : Int).toNat; omega, fun H' => Cmp (rP rN rS) H3 D (stsOf (i + 1) rs) H', fun H' c' => ⟨k - 1, by omega, by omega, c'⟩, ?_⟩
      rintro x H4 ⟨rfl, rfl⟩
      refine ⟨rfl, ?_⟩
      refine ⟨_, rfl, ar, rfl, ⟨_, SqL.of (c.fe.k har)⟩, fun j k H' => j + k = rs.length ∧ Cmp (rP rN rS) H3 D (stsOf i rs ++ (rs.take j).map fun r => (i, r)) H', ⟨rs.length, by omega, by simpa using c⟩, ?_⟩
      rintro j k' H5 ⟨hjk, c5⟩
      by_cases hj : j < rs.length
      · have hrj : rs[j]? = some rs[j] := List.getElem?_eq_getElem hj
        obtain ⟨xv, hxv, hxr⟩ := hrx.at hrj
        refine .inr ⟨⟨rxs, xv, SqL.of (c5.fe.k har), hxv⟩, fun H' => Cmp (rP rN rS) H3 D (stsOf i rs ++ (rs.take (j + 1)).map fun r => (i, r)) H', fun H' c' => ⟨k' - 1, by omega, by omega, c'⟩, ?_⟩
        rintro x H6 ⟨rfl, hxe⟩
        have hx2 := hxe rxs (SqL.of (c5.fe.k har))
        rw [hxv] at hx2; cases hx2
        cases hxr
        refine ⟨rfl, ?_⟩
        refine ⟨_, rfl, _, rfl, by show 2 ≤ sizeLine; decide, fun U hU => ?_⟩
        have fU := Fe.new (o := .tup [.int (0 + (i : Int)), .str ⟨(rs[j]).toArray⟩]) hU
        have hz : (rs.take (j + 1)).map (fun r => (i, r)) = (rs.take j).map (fun r => (i, r)) ++ [(i, rs[j])] := by
          rw [List.take_add_one, hrj, List.map_append]; rfl
        rw [hz, ← List.append_assoc]
        refine c5.add ?_ fU ⟨U, _, _, rfl, upd_same, by rw [Int.zero_add]; rfl, rfl⟩
        rw [List.length_append, stsOf_len, List.length_map, List.length_take]
        have : i * rs.length ≤ 60 * 61 := Nat.mul_le_mul (by omega) hrl61
        omega
      · have e : j = rs.length := by omega
        subst e
        refine .inl ⟨⟨rxs, SqL.of (c5.fe.k har), by rw [hrx.len]; exact Nat.le_refl _⟩, ?_⟩
        rw [List.take_length] at c5
        show Cmp (rP rN rS) H3 D (stsOf (i + 1) rs) H5
        rw [stsOf_succ]
        exact c5
    · have e : i = m.1 := by omega
      subst e
      refine .inl ⟨by show (m.1 : Int).toNat ≤ m.1; omega, ?_⟩
      clear hi hik
      -- the standings stand at D
      obtain ⟨_, eD, xs, hDx, hxs⟩ := c
      generalize hsts : stsOf m.1 rs = sts at hxs
      have hstl : sts.length ≤ 4000 := by
        rw [← hsts, stsOf_len]
        have : m.1 * rs.length ≤ 60 * 61 := Nat.mul_le_mul hfew hrl61
        omega
      have so : SOk b m sts := by
        subst hsts
        exact ⟨ok.bk, ok.mo, ok.few, ok.ln, ok.ms, stsOf_nd hrn, fun s => by rw [stsOf_mem, hrm]⟩
      have e04 := e03.trans eD
      have i4 := eD.k i3
      refine ⟨_, rfl, sf, _, dx, _, rfl, i4, cl, T.na_MoveWeb_standings, ?_, ?_⟩
      · have h1 := length_putF nm (V.ref am) (putF nb vb [])
        have h2 := length_putF nb vb []
        rw [List.length_nil] at h2; omega
      have nDs : D ≠ sf := ne_of hDx i4 (fun z => nomatch z)
      have e5 := e04.mut (o := .ins T.c_MoveWeb dx (putF ns (.ref D) (putF nm (.ref am) (putF nb vb [])))) nsf
      have i5 : upd H' sf (.ins T.c_MoveWeb dx (putF ns (.ref D) (putF nm (.ref am) (putF nb vb [])))) sf = some (.ins T.c_MoveWeb dx (putF ns (.ref D) (putF nm (.ref am) (putF nb vb [])))) := upd_same
      have D5 : upd H' sf (.ins T.c_MoveWeb dx (putF ns (.ref D) (putF nm (.ref am) (putF nb vb [])))) D = some (.lst xs) := by rw [upd_ne nDs]; exact hDx
      have fx5 : Fx [sf] H' (upd H' sf (.ins T.c_MoveWeb dx (putF ns (.ref D) (putF nm (.ref am) (putF nb vb []))))) := Fx.put i4 (List.mem_singleton.mpr rfl) (fun _ z => nomatch z)
      have x5 := Al.mo fx5 hxs
      generalize upd H' sf (.ins T.c_MoveWeb dx (putF ns (.ref D) (putF nm (.ref am) (putF nb vb [])))) = H5 at e5 i5 D5 x5
      clear fx5 i4 hxs hDx
      have lks : ∀ v, (putF ns v (putF nm (.ref am) (putF nb vb []))).lookup ns = some v := fun v => by rw [lookup_putF, if_pos rfl]
      -- self.homes
      refine ⟨_, rfl, sf, _, dx, _, _, rfl, i5, cl, T.na_MoveWeb_standings, lks _, D, xs, rfl, SqL.of D5, fun Dh hDh => dc_by xs.length (fun i H' => H5 Dh = none ∧ Fe H5 H' ∧ H' Dh = some (.dT (hkvs (sts.take i)))) ⟨hDh, Fe.new hDh, upd_same⟩
        (fun i H' hi c => enum_go (c.2.1.k D5) hi) (fun H' c => enum_stop (c.2.1.k D5) (Nat.le_refl _)) ?_ ?_⟩
      · rintro i x H6 H7 hi ⟨c1, c2, c3⟩ hy
        obtain ⟨U, x, rfl, hU, rfl, hx⟩ := enum_yld (c2.k D5) hy
        obtain ⟨st, hst, hxr⟩ := x5.get hx
        obtain ⟨u, q1, q2, rfl, hu2, rfl, rfl⟩ := id hxr
        have fU := Fe.new (o := .tup [.int (i : Int), .ref u]) hU
        refine ⟨U, _, rfl, SqT.of upd_same, rfl, _, _, rfl, _, _, rfl, rfl, rfl, ?_⟩
        refine ⟨_, rfl, _, rfl, _, DPut.t (k := kSt st) (fU.k c3) (fU.k (c2.k hu2)) ?_, c1, (c2.trans fU).mut c1, ?_⟩
        · unfold hkvs
          rw [List.length_map, List.length_zipIdx, List.length_take, sizeLine_eq]; omega
        · rw [upd_same, hkvs_put so.nd hst]
      · rintro H6 ⟨_, e6, hh6⟩
        rw [x5.len, List.take_length] at hh6
        have e06 := e5.trans e6
        have i6 := e6.k i5
        refine ⟨_, rfl, sf, _, dx, _, rfl, i6, cl, T.na_MoveWeb_homes, ?_, ?_⟩
        · have h1 := length_putF nm (V.ref am) (putF nb vb [])
          have h2 := length_putF nb vb []
          have h3 := length_putF ns (V.ref D) (putF nm (V.ref am) (putF nb vb []))
          rw [List.length_nil] at h2; omega
        have e7 := e06.mut (o := .ins T.c_MoveWeb dx (putF nh (.ref Dh) (putF ns (.ref D) (putF nm (.ref am) (putF nb vb []))))) nsf
        have fx7 : Fx [sf] H6 (upd H6 sf (.ins T.c_MoveWeb dx (putF nh (.ref Dh) (putF ns (.ref D) (putF nm (.ref am) (putF nb vb [])))))) := Fx.put i6 (List.mem_singleton.mpr rfl) (fun _ z => nomatch z)
        have i7 : upd H6 sf (.ins T.c_MoveWeb dx (putF nh (.ref Dh) (putF ns (.ref D) (putF nm (.ref am) (putF nb vb []))))) sf = some (.ins T.c_MoveWeb dx (putF nh (.ref Dh) (putF ns (.ref D) (putF nm (.ref am) (putF nb vb []))))) := upd_same
        have D7 := fx7.keep D _ (fun z => nDs (List.mem_singleton.mp z)) (e6.k D5)
        have h7 := fx7.keep Dh _ (fun z => ne_of hh6 i6 (fun z => nomatch z) (List.mem_singleton.mp z)) hh6
        have x7 := Al.mo fx7 (Al.mo e6 x5)
        generalize upd H6 sf (.ins T.c_MoveWeb dx (putF nh (.ref Dh) (putF ns (.ref D) (putF nm (.ref am) (putF nb vb []))))) = H7 at e7 i7 D7 h7 x7
        clear fx7 i6 x5
        have lks7 : (putF nh (.ref Dh) (putF ns (.ref D) (putF nm (.ref am) (putF nb vb [])))).lookup ns = some (.ref D) := by
          rw [lookup_putF, if_neg w_sh, lookup_putF, if_pos rfl]
        -- self.silent
        refine ⟨_, rfl, sf, _, dx, _, _, rfl, i7, cl, T.na_MoveWeb_standings, lks7, D, rfl, ⟨_, SqL.of D7⟩, fun p0 hp0 => lc_list (K := K) (a := D) (xs := xs) (MatC H7 p0) (MatC.start hp0) (fun i H' _ mc => SqL.of (mc.2.1.k D7)) ?_ ?_⟩
        · intro i x H' hx mc
          exact ⟨rfl, mc.go (by have := (List.getElem?_eq_some_iff.mp hx).1; rw [x7.len] at this; omega)⟩
        · intro H8 mc
          have e8 := mc.2.1
          have e08 := e7.trans e8
          obtain ⟨qs0, M0⟩ := mc.mat (r := rMv) e7
          have i8 := e8.k i7
          refine ⟨_, rfl, sf, _, dx, _, rfl, i8, cl, T.na_MoveWeb_silent, ?_, ?_⟩
          · have h1 := length_putF nm (V.ref am) (putF nb vb [])
            have h2 := length_putF nb vb []
            have h3 := length_putF ns (V.ref D) (putF nm (V.ref am) (putF nb vb []))
            have h4 := length_putF nh (V.ref Dh) (putF ns (V.ref D) (putF nm (V.ref am) (putF nb vb [])))
            rw [List.length_nil] at h2; omega
          have e9 := e08.mut (o := .ins T.c_MoveWeb dx (putF nl (.ref p0) (putF nh (.ref Dh) (putF ns (.ref D) (putF nm (.ref am) (putF nb vb [])))))) nsf
          have fx9 : Fx [sf] H8 (upd H8 sf (.ins T.c_MoveWeb dx (putF nl (.ref p0) (putF nh (.ref Dh) (putF ns (.ref D) (putF nm (.ref am) (putF nb vb []))))))) := Fx.put i8 (List.mem_singleton.mpr rfl) (fun _ z => nomatch z)
          have i9 : upd H8 sf (.ins T.c_MoveWeb dx (putF nl (.ref p0) (putF nh (.ref Dh) (putF ns (.ref D) (putF nm (.ref am) (putF nb vb [])))))) sf = some (.ins T.c_MoveWeb dx (putF nl (.ref p0) (putF nh (.ref Dh) (putF ns (.ref D) (putF nm (.ref am) (putF nb vb [])))))) := upd_same
          have D9 := fx9.keep D _ (fun z => nDs (List.mem_singleton.mp z)) (e8.k D7)
          have h9 := fx9.keep Dh _ (fun z => ne_of (e8.k h7) i8 (fun z => nomatch z) (List.mem_singleton.mp z)) (e8.k h7)
          have x9 := Al.mo fx9 (Al.mo e8 x7)
          have Ms8 : Mats H0 H8 [(p0, qs0, List.replicate xs.length [])] := ⟨fun m hm => by rw [List.mem_singleton.mp hm]; exact M0, by
            show ((p0 :: qs0) ++ []).Nodup
            rw [List.append_nil, List.nodup_cons]; exact ⟨M0.ne, M0.nd⟩⟩
          have nsfL : sf ∉ adr [(p0, qs0, List.replicate xs.length ([] : Row))] := fun z => by
            obtain ⟨ys, hy⟩ := Ms8.known z
            rw [i8] at hy; cases hy
          have Ms9 := Ms8.keep fx9 (fun a ha z => nsfL (List.mem_singleton.mp z ▸ ha))
          have nD9 : D ∉ adr [(p0, qs0, List.replicate xs.length ([] : Row))] := fun z => by
            have h1 : H7 D = none := by
              have z : D ∈ (p0 :: qs0) ++ [] := z
              rw [List.append_nil] at z
              rcases List.mem_cons.mp z with rfl | z
              · exact hp0
              · obtain ⟨_, _, qs1, hl1, hD1, hn1, hne1, hq1⟩ := mc
                have h2 : qs0 = qs1 := by
                  have := M0.at_
                  rw [hD1] at this
                  have := HO.lst.inj (Option.some.inj this)
                  exact ((List.map_inj_right (fun a b e => V.ref.inj e)).mp this).symm
                exact (hq1 D (h2 ▸ z)).1
            rw [D7] at h1; cases h1
          generalize upd H8 sf (.ins T.c_MoveWeb dx (putF nl (.ref p0) (putF nh (.ref Dh) (putF ns (.ref D) (putF nm (.ref am) (putF nb vb [])))))) = H9 at e9 i9 D9 h9 x9 Ms9
          clear fx9 i8 x7 Ms8 nsfL
          have lks9 : (putF nl (.ref p0) (putF nh (.ref Dh) (putF ns (.ref D) (putF nm (.ref am) (putF nb vb []))))).lookup ns = some (.ref D) := by
            rw [lookup_putF, if_neg w_sl, lookup_putF, if_neg w_sh, lookup_putF, if_pos rfl]
          obtain ⟨ab, bl, be, rfl, hab, rfl, _⟩ := id (Me.go hb e9)
          -- self.reading
          refine ⟨_, rfl, ab, _, _, _, rfl, rfl, SqT.of hab, rfl, _, rfl, fun Dr hDr => dc_by b.1.length (fun i H' => ∃ Ls : List MatD, Ls.length = i ∧ H9 Dr = none ∧ Fe H9 H' ∧ H' Dr = some (.dK (rkvs (b.1.take i) (Ls.map (·.1)))) ∧
            Mats H0 H' ((p0, qs0, List.replicate xs.length []) :: Ls) ∧ (∀ m ∈ Ls, m.2.2 = List.replicate xs.length []) ∧ D ∉ adr ((p0, qs0, List.replicate xs.length []) :: Ls))
            ⟨[], rfl, hDr, Fe.new hDr, upd_same, Ms9.fe (Fe.new hDr), fun m h => (nomatch h), nD9⟩ (fun i H' hi _ => by show i < b.1.toArray.size; rw [List.size_toArray]; exact hi) (fun H' _ => by show b.1.toArray.size ≤ _; rw [List.size_toArray]; exact Nat.le_refl _) ?_ ?_⟩
          · rintro i x H10 H11 hi ⟨Ls, hl, c1, c2, c3, c4, c5, c6⟩ ⟨rfl, ch, hch, rfl⟩
            have hch : b.1[i]? = some ch := by
              have hch : b.1.toArray[i]? = some ch := hch
              rw [List.getElem?_toArray] at hch
              exact hch
            refine ⟨rfl, ?_⟩
            refine ⟨_, rfl, _, rfl, sf, _, dx, _, _, rfl, c2.k i9, cl, T.na_MoveWeb_standings, lks9, D, rfl, ⟨_, SqL.of (c2.k D9)⟩, fun p1 hp1 => lc_list (K := K) (a := D) (xs := xs) (MatC H11 p1) (MatC.start hp1) (fun i H' _ mc => SqL.of (mc.2.1.k (c2.k D9))) ?_ ?_⟩
            · intro i x H' hx mc
              exact ⟨rfl, mc.go (by have := (List.getElem?_eq_some_iff.mp hx).1; rw [x9.len] at this; omega)⟩
            · intro H12 mc1
              obtain ⟨qs1, M1⟩ := mc1.mat (r := rMv) (Fx.refl [] H11)
              have e12 := mc1.2.1
              have Ms12 := c4.more (e9.trans c2) e12 M1
              have n12 : Dr ∉ adr ((p0, qs0, List.replicate xs.length []) :: Ls ++ [(p1, qs1, List.replicate xs.length [])]) := fun z => by
                obtain ⟨ys, hy⟩ := Ms12.known z
                rw [e12.k c3] at hy; cases hy
              refine ⟨_, DPut.k (k := kS [ch]) (e12.k c3) ?_, Ls ++ [(p1, qs1, List.replicate xs.length [])], by rw [List.length_append, hl]; rfl, c1, (c2.trans e12).mut c1, ?_, ?_, ?_, ?_⟩
              · unfold rkvs
                rw [List.length_map, List.length_zip, List.length_take, sizeLine_eq]
                have := ok.bk.fewL; omega
              · rw [upd_same, rkvs_put (by rw [List.length_take, List.length_map]; omega) (nodup_take_not ok.ln hch), List.take_add_one, hch, List.map_append]
                rfl
              · exact Ms12.keep (Fx.put (e12.k c3) (List.mem_singleton.mpr rfl) (fun _ z => nomatch z)) (fun a ha z => n12 (List.mem_singleton.mp z ▸ ha))
              · intro m hm
                rcases List.mem_append.mp hm with hm | hm
                · exact c5 m hm
                · rw [List.mem_singleton.mp hm]
              · intro z
                have z : D ∈ adr (((p0, qs0, List.replicate xs.length []) :: Ls) ++ [(p1, qs1, List.replicate xs.length [])]) := z
                unfold adr at z
                rw [List.flatMap_append] at z
                rcases List.mem_append.mp z with z | z
                · exact c6 z
                · have z : D ∈ (p1 :: qs1) ++ [] := z
                  rw [List.append_nil] at z
                  have h1 : H11 D = none := by
                    rcases List.mem_cons.mp z with rfl | z
                    · exact hp1
                    · exact M1.new D z
                  rw [c2.k D9] at h1; cases h1
          · rintro H10 ⟨Ls, hl, c1, c2, c3, c4, c5, c6⟩
            rw [List.take_length] at c3
            have i10 := c2.k i9
            have e10 := e9.trans c2
            refine ⟨_, rfl, sf, _, dx, _, rfl, i10, cl, T.na_MoveWeb_reading, ?_, ?_⟩
            · have h1 := length_putF nm (V.ref am) (putF nb (V.ref ab) [])
              have h2 := length_putF nb (V.ref ab) []
              have h3 := length_putF ns (V.ref D) (putF nm (V.ref am) (putF nb (V.ref ab) []))
              have h4 := length_putF nh (V.ref Dh) (putF ns (V.ref D) (putF nm (V.ref am) (putF nb (V.ref ab) [])))
              have h5 := length_putF nl (V.ref p0) (putF nh (V.ref Dh) (putF ns (V.ref D) (putF nm (V.ref am) (putF nb (V.ref ab) []))))
              rw [List.length_nil] at h2; omega
            have e11 := e10.mut (o := .ins T.c_MoveWeb dx (wfl (.ref ab) (.ref am) (.ref D) (.ref Dh) (.ref p0) (.ref Dr))) nsf
            have fx : Fx [sf] H10 (upd H10 sf (.ins T.c_MoveWeb dx (wfl (.ref ab) (.ref am) (.ref D) (.ref Dh) (.ref p0) (.ref Dr)))) := Fx.put i10 (List.mem_singleton.mpr rfl) (fun _ z => nomatch z)
            have ap : ∀ a o, H10 a = some o → (∀ fs, o ≠ .ins T.c_MoveWeb dx fs) → upd H10 sf (.ins T.c_MoveWeb dx (wfl (.ref ab) (.ref am) (.ref D) (.ref Dh) (.ref p0) (.ref Dr))) a = some o := fun a o h n =>
              fx.keep a o (fun z => by rw [List.mem_singleton.mp z, i10] at h; exact n _ (Option.some.inj h).symm) h
            have Wt : WAt T.c_MoveWeb H0 (upd H10 sf (.ins T.c_MoveWeb dx (wfl (.ref ab) (.ref am) (.ref D) (.ref Dh) (.ref p0) (.ref Dr)))) b m sts ((p0, qs0, List.replicate xs.length []) :: Ls) sf dx (.ref ab) (.ref am) D xs Dh Dr :=
              ⟨e11, ⟨p0, rfl, upd_same⟩, Me.go hb e11, Me.go hm e11, ap _ _ (c2.k D9) (fun _ z => nomatch z), Al.mo fx (Al.mo c2 x9), ap _ _ (c2.k h9) (fun _ z => nomatch z), ap _ _ c3 (fun _ z => nomatch z),
                c4.keep fx (fun a ha z => by
                  obtain ⟨ys, hy⟩ := c4.known ha
                  rw [List.mem_singleton.mp z, i10] at hy; cases hy), c6⟩
            have i11 : upd H10 sf (.ins T.c_MoveWeb dx (wfl (.ref ab) (.ref am) (.ref D) (.ref Dh) (.ref p0) (.ref Dr))) sf = some (.ins T.c_MoveWeb dx (wfl (.ref ab) (.ref am) (.ref D) (.ref Dh) (.ref p0) (.ref Dr))) := upd_same
            -- self.put_moves(steps_by_state(machine))
            refine ⟨_, rfl, sf, dx, _, rfl, i11, wfl_no (by decide +kernel) (by decide +kernel) (by decide +kernel) (by decide +kernel) (by decide +kernel) (by decide +kernel), _, rfl, m, .ref am, rfl, Wt.hm, ok.mo, fun pr H12 rqs e12 Mr => ?_⟩
            have allrows : ∀ d ∈ ((p0, qs0, List.replicate xs.length ([] : Row)) :: Ls : List MatD), d.2.2 = List.replicate sts.length [] := fun d hd => by
              rw [← x9.len]
              rcases List.mem_cons.mp hd with rfl | hd
              · rfl
              · exact c5 d hd
            refine ⟨H0, _, b, m, sts, _, sf, dx, .ref ab, .ref am, D, xs, Dh, Dr, pr, rqs, rfl, ⟨Wt.f e12, ⟨?_, ?_, ?_⟩, ?_, Mr, ?_⟩, so, by omega, fun H' L' W' R' => ?_⟩
            · show Ls.length + 1 = (b.1.map some).length + 1
              rw [hl, List.length_map]
            · intro d hd
              rw [allrows d hd, List.length_replicate]
            · intro j k d h to c _ hd
              rw [allrows d (List.mem_of_getElem? hd)]
              constructor
              · rintro ⟨row, h1, h2⟩
                rw [List.getElem?_replicate] at h1
                split at h1
                · cases h1; cases h2
                · cases h1
              · exact fun z => z.2.elim
            · intro d hd row hr
              rw [allrows d hd, List.getElem?_replicate] at hr
              split at hr
              · cases hr; exact Nat.le_refl _
              · cases hr
            · intro a ha z
              obtain ⟨ys, hy⟩ := Wt.mats.known ha
              have q : some (HO.lst ys) = none := hy.symm.trans z
              cases q
            · subst hsts
              exact kk H' rs L' D xs Dh Dr hrsort so hstl W' R'
end
end Fm
/-! rows of least costs -/
namespace Fm
open PySem L2
theorem ixn {n j : Nat} (hj : j < n) : ixN n (j : Int) = some j := by
  unfold ixN
  rw [if_pos (by omega), if_pos (by omega)]
  simp
abbrev CRow := List (Option Nat)
def oV : Option Nat → V
  | none => .non
  | some c => .int (c : Int)
theorem opt_oV {H : Hp} {v : V} {o : Option Nat} (h : rO rN H v o) : v = oV o := by
  cases o with
  | none => exact h
  | some c => exact h
theorem Al.opts {H : Hp} : ∀ {xs : List V} {l : CRow}, Al (rO rN) H xs l → xs = l.map oV
  | _, _, .nil => rfl
  | _, _, .cons h t => by rw [List.map_cons, ← Al.opts t, opt_oV h]
theorem Al.ofOpts {H : Hp} : ∀ l : CRow, Al (rO rN) H (l.map oV) l
  | [] => .nil
  | none :: l => .cons rfl (Al.ofOpts l)
  | some c :: l => .cons rfl (Al.ofOpts l)
/-- the least number of a set, none of the empty one -/
def Least (A : Nat → Prop) : Option Nat → Prop
  | none => ∀ c, ¬ A c
  | some c => A c ∧ ∀ d, A d → c ≤ d
theorem Least.uniq {A : Nat → Prop} : ∀ {o p : Option Nat}, Least A o → Least A p → o = p
  | none, none, _, _ => rfl
  | none, some c, h, k => absurd k.1 (h c)
  | some c, none, h, k => absurd h.1 (k c)
  | some c, some d, h, k => by
    have h1 := h.2 d k.1
    have h2 := k.2 c h.1
    rw [Nat.le_antisymm h1 h2]
theorem Least.congr {A B : Nat → Prop} (h : ∀ c, A c ↔ B c) {o : Option Nat} (l : Least A o) : Least B o := by
  have : A = B := funext fun c => propext (h c)
  rw [← this]; exact l
/-- each place of the row holds the least number of its set -/
structure LRow (n : Nat) (A : Nat → Nat → Prop) (row : CRow) : Prop where
  len : row.length = n
  snd : ∀ (h c : Nat), row[h]? = some (some c) → A h c
  low : ∀ h c, A h c → ∃ c', row[h]? = some (some c') ∧ c' ≤ c
theorem LRow.least {n : Nat} {A : Nat → Nat → Prop} {row : CRow} (R : LRow n A row) {h : Nat} {o : Option Nat} (e : row[h]? = some o) : Least (A h) o := by
  cases o with
  | none =>
    intro c hc
    obtain ⟨c', h1, _⟩ := R.low h c hc
    rw [e] at h1; cases h1
  | some c =>
    refine ⟨R.snd h c e, fun d hd => ?_⟩
    obtain ⟨c', h1, h2⟩ := R.low h d hd
    rw [e] at h1; cases h1
    exact h2
theorem LRow.imp {n : Nat} {A B : Nat → Nat → Prop} {row : CRow} (R : LRow n A row) (h1 : ∀ h c, A h c → B h c) (h2 : ∀ h c, B h c → ∃ c', A h c' ∧ c' ≤ c) : LRow n B row :=
  ⟨R.len, fun h c e => h1 h c (R.snd h c e), fun h c e => by
    obtain ⟨c', a, l⟩ := h2 h c e
    obtain ⟨c2, a2, l2⟩ := R.low h c' a
    exact ⟨c2, a2, Nat.le_trans l2 l⟩⟩
theorem LRow.lt {n : Nat} {A : Nat → Nat → Prop} {row : CRow} (R : LRow n A row) {h c : Nat} (a : A h c) : h < n := by
  obtain ⟨c', e, _⟩ := R.low h c a
  rw [← R.len]; exact (List.getElem?_eq_some_iff.mp e).1
theorem LRow.nothing (n : Nat) : LRow n (fun _ _ => False) (List.replicate n none) := by
  refine ⟨List.length_replicate, fun h c e => ?_, fun _ _ z => z.elim⟩
  rw [List.getElem?_replicate] at e
  split at e
  · cases e
  · cases e
/-- is v better than what stands there? -/
def Bet (o : Option Nat) (v : Nat) : Prop := ∀ c, o = some c → v < c
theorem LRow.put {n : Nat} {A : Nat → Nat → Prop} {row : CRow} (R : LRow n A row) {to v : Nat} {o : Option Nat} (h : row[to]? = some o) (b : Bet o v) : LRow n (fun h c => A h c ∨ (h = to ∧ c = v)) (row.set to (some v)) where
  len := by rw [List.length_set]; exact R.len
  snd := fun k c e => by
    rw [List.getElem?_set] at e
    by_cases q : to = k
    · subst q
      rw [if_pos rfl, if_pos (List.getElem?_eq_some_iff.mp h).1] at e
      cases e; exact .inr ⟨rfl, rfl⟩
    · rw [if_neg q] at e
      exact .inl (R.snd k c e)
  low := fun k c e => by
    by_cases q : to = k
    · subst q
      refine ⟨v, by rw [List.getElem?_set, if_pos rfl, if_pos (List.getElem?_eq_some_iff.mp h).1], ?_⟩
      rcases e with e | ⟨_, rfl⟩
      · obtain ⟨c', h1, h2⟩ := R.low to c e
        rw [h] at h1; cases h1
        exact Nat.le_trans (Nat.le_of_lt (b c' rfl)) h2
      · exact Nat.le_refl _
    · rcases e with e | ⟨rfl, _⟩
      · obtain ⟨c', h1, h2⟩ := R.low k c e
        exact ⟨c', by rw [List.getElem?_set, if_neg q]; exact h1, h2⟩
      · exact absurd rfl q
theorem LRow.keep {n : Nat} {A : Nat → Nat → Prop} {row : CRow} (R : LRow n A row) {to v : Nat} {o : Option Nat} (h : row[to]? = some o) (b : ¬ Bet o v) : LRow n (fun h c => A h c ∨ (h = to ∧ c = v)) row := by
  refine R.imp (fun _ _ => .inl) ?_
  rintro k c (e | ⟨rfl, rfl⟩)
  · exact ⟨c, e, Nat.le_refl _⟩
  · cases o with
    | none => exact absurd (fun _ z => nomatch z) b
    | some d =>
      refine ⟨d, R.snd _ _ h, ?_⟩
      apply Nat.le_of_not_lt
      intro l
      exact b fun c' z => by cases z; exact l
/-- closed under moves that read nothing -/
inductive Cl (S : Nat → Nat → Nat → Prop) (A : Nat → Nat → Prop) : Nat → Nat → Prop
  | beg {h c : Nat} : A h c → Cl S A h c
  | step {h c to d : Nat} : Cl S A h c → S h to d → Cl S A to (c + d)
/-- behind one move each -/
def Bh (S : Nat → Nat → Nat → Prop) (A : Nat → Nat → Prop) (to c : Nat) : Prop := ∃ h c0 d, A h c0 ∧ S h to d ∧ c = c0 + d
/-- a move is heeded -/
def Rx (row : CRow) (h to d : Nat) : Prop := ∀ c, row[h]? = some (some c) → ∃ c', row[to]? = some (some c') ∧ c' ≤ c + d
def wt (B : Nat) : Option Nat → Nat
  | none => B + 1
  | some c => c
def Phi (B : Nat) (row : CRow) : Nat := (row.map (wt B)).sum
theorem sum_set : ∀ (l : List Nat) (i x y : Nat), l[i]? = some y → (l.set i x).sum + y = l.sum + x
  | [], i, x, y, h => by cases i <;> cases h
  | a :: l, 0, x, y, h => by cases h; rw [List.set_cons_zero, List.sum_cons, List.sum_cons]; omega
  | a :: l, i + 1, x, y, h => by
    rw [List.set_cons_succ, List.sum_cons, List.sum_cons]
    have := sum_set l i x y h
    omega
theorem Phi_set {B : Nat} {row : CRow} {i x : Nat} {o : Option Nat} (h : row[i]? = some o) (l : x < wt B o) : Phi B (row.set i (some x)) < Phi B row := by
  unfold Phi
  rw [List.map_set]
  have := sum_set (row.map (wt B)) i (wt B (some x)) (wt B o) (by rw [List.getElem?_map, h]; rfl)
  have e : wt B (some x) = x := rfl
  rw [e] at this ⊢
  omega
theorem cnt_none : ∀ (l : CRow) (i x : Nat), l[i]? = some none → (l.set i (some x)).count none + 1 = l.count none
  | [], i, x, h => by cases i <;> cases h
  | a :: l, 0, x, h => by cases h; rw [List.set_cons_zero, List.count_cons, List.count_cons]; simp
  | a :: l, i + 1, x, h => by
    rw [List.set_cons_succ, List.count_cons, List.count_cons]
    have := cnt_none l i x h
    omega
theorem cnt_some : ∀ (l : CRow) (i x c : Nat), l[i]? = some (some c) → (l.set i (some x)).count none = l.count none
  | [], i, x, c, h => by cases i <;> cases h
  | a :: l, 0, x, c, h => by cases h; rw [List.set_cons_zero, List.count_cons, List.count_cons]; simp
  | a :: l, i + 1, x, c, h => by
    rw [List.set_cons_succ, List.count_cons, List.count_cons]
    have := cnt_some l i x c h
    omega
/-- a row while it is closed: S the moves, their costs at most D; at first nothing above M -/
structure Rlx (n : Nat) (S : Nat → Nat → Nat → Prop) (A : Nat → Nat → Prop) (M D : Nat) (row : CRow) : Prop where
  len : row.length = n
  snd : ∀ (h c : Nat), row[h]? = some (some c) → Cl S A h c
  low : ∀ h c, A h c → ∃ c', row[h]? = some (some c') ∧ c' ≤ c
  cap : ∀ (h c : Nat), row[h]? = some (some c) → c ≤ M + (n - row.count none) * D
theorem cnt_le (l : CRow) : l.count none ≤ l.length := List.count_le_length
section
variable {n : Nat} {S : Nat → Nat → Nat → Prop} {A : Nat → Nat → Prop} {M D : Nat} {row : CRow}
theorem Rlx.start (R : LRow n A row) (hM : ∀ (h c : Nat), row[h]? = some (some c) → c ≤ M) : Rlx n S A M D row :=
  ⟨R.len, fun h c e => .beg (R.snd h c e), R.low, fun h c e => Nat.le_trans (hM h c e) (Nat.le_add_right _ _)⟩
theorem Rlx.capB (R : Rlx n S A M D row) {h c : Nat} (e : row[h]? = some (some c)) : c ≤ M + n * D :=
  Nat.le_trans (R.cap h c e) (Nat.add_le_add_left (Nat.mul_le_mul_right _ (Nat.sub_le _ _)) _)
theorem Rlx.put (R : Rlx n S A M D row) {h to c d : Nat} {o : Option Nat} (hh : row[h]? = some (some c)) (s : S h to d) (hd : d ≤ D) (ho : row[to]? = some o) (b : Bet o (c + d)) :
    Rlx n S A M D (row.set to (some (c + d))) ∧ Phi (M + n * D) (row.set to (some (c + d))) < Phi (M + n * D) row := by
  have hl := (List.getElem?_eq_some_iff.mp ho).1
  have hcn := cnt_le row
  have hln := R.len
  have key : c + d ≤ M + (n - (row.set to (some (c + d))).count none) * D ∧ (n - row.count none) * D ≤ (n - (row.set to (some (c + d))).count none) * D ∧ c + d < wt (M + n * D) o := by
    have h1 := R.cap h c hh
    cases o with
    | none =>
      have h2 := cnt_none row to (c + d) ho
      have h3 : n - (row.set to (some (c + d))).count none = (n - row.count none) + 1 := by omega
      rw [h3, Nat.succ_mul]
      have h4 : (n - row.count none + 1) * D ≤ n * D := Nat.mul_le_mul_right _ (by omega)
      rw [Nat.succ_mul] at h4
      exact ⟨by omega, by omega, by show c + d < M + n * D + 1; omega⟩
    | some e =>
      rw [cnt_some row to (c + d) e ho]
      have h2 := b e rfl
      have h3 := R.cap to e ho
      exact ⟨by omega, by omega, h2⟩
  refine ⟨⟨by rw [List.length_set]; exact R.len, fun k c' e => ?_, fun k c' e => ?_, fun k c' e => ?_⟩, Phi_set ho key.2.2⟩
  · rw [List.getElem?_set] at e
    by_cases q : to = k
    · subst q
      rw [if_pos rfl, if_pos hl] at e
      cases e
      exact .step (R.snd h c hh) s
    · rw [if_neg q] at e
      exact R.snd k c' e
  · obtain ⟨c2, h1, h2⟩ := R.low k c' e
    by_cases q : to = k
    · subst q
      rw [ho] at h1; cases h1
      exact ⟨c + d, by rw [List.getElem?_set, if_pos rfl, if_pos hl], Nat.le_trans (Nat.le_of_lt (b c2 rfl)) h2⟩
    · exact ⟨c2, by rw [List.getElem?_set, if_neg q]; exact h1, h2⟩
  · rw [List.getElem?_set] at e
    by_cases q : to = k
    · subst q
      rw [if_pos rfl, if_pos hl] at e
      cases e
      exact key.1
    · rw [if_neg q] at e
      exact Nat.le_trans (R.cap k c' e) (Nat.add_le_add_left key.2.1 _)
/-- the other moves stay heeded -/
theorem Rx.put {to v k t2 d2 : Nat} {o : Option Nat} (ho : row[to]? = some o) (b : Bet o v) (ne : k ≠ to) (r : Rx row k t2 d2) : Rx (row.set to (some v)) k t2 d2 := by
  intro c e
  have hl := (List.getElem?_eq_some_iff.mp ho).1
  rw [List.getElem?_set, if_neg ne.symm] at e
  obtain ⟨c', h1, h2⟩ := r c e
  by_cases q : to = t2
  · subst q
    rw [ho] at h1; cases h1
    exact ⟨v, by rw [List.getElem?_set, if_pos rfl, if_pos hl], Nat.le_trans (Nat.le_of_lt (b c' rfl)) h2⟩
  · exact ⟨c', by rw [List.getElem?_set, if_neg q]; exact h1, h2⟩
theorem Rx.here {h to c d : Nat} {o : Option Nat} (hh : row[h]? = some (some c)) (ho : row[to]? = some o) (b : Bet o (c + d)) : Rx (row.set to (some (c + d))) h to d := by
  intro c2 e
  have hl := (List.getElem?_eq_some_iff.mp ho).1
  refine ⟨c + d, by rw [List.getElem?_set, if_pos rfl, if_pos hl], ?_⟩
  rw [List.getElem?_set] at e
  by_cases q : to = h
  · subst q
    rw [hh] at ho; cases ho
    exact absurd (b c rfl) (by omega)
  · rw [if_neg q, hh] at e; cases e
    exact Nat.le_refl _
theorem Rx.well {h to c d : Nat} {o : Option Nat} (hh : row[h]? = some (some c)) (ho : row[to]? = some o) (b : ¬ Bet o (c + d)) : Rx row h to d := by
  intro c2 e
  rw [hh] at e; cases e
  cases o with
  | none => exact absurd (fun _ z => nomatch z) b
  | some e =>
    refine ⟨e, ho, Nat.le_of_not_lt fun l => b fun c' z => by cases z; exact l⟩
theorem Rlx.done (R : Rlx n S A M D row) (h : ∀ k to d, S k to d → Rx row k to d) : LRow n (Cl S A) row where
  len := R.len
  snd := R.snd
  low := fun k c e => by
    induction e with
    | beg e => exact R.low _ _ e
    | step _ s ih =>
      obtain ⟨c', h1, h2⟩ := ih
      obtain ⟨c2, h3, h4⟩ := h _ _ _ s c' h1
      exact ⟨c2, h3, by omega⟩
end
theorem row_max (row : CRow) : ∃ M, ∀ (h c : Nat), row[h]? = some (some c) → c ≤ M := by
  induction row with
  | nil => exact ⟨0, fun h c e => by cases h <;> cases e⟩
  | cons o row ih =>
    obtain ⟨M, hM⟩ := ih
    refine ⟨M + wt 0 o, fun h c e => ?_⟩
    cases h with
    | zero => cases e; show c ≤ M + c; omega
    | succ h => have := hM h c e; omega
theorem list_max (l : List Nat) : ∃ M, ∀ x ∈ l, x ≤ M := by
  induction l with
  | nil => exact ⟨0, fun _ h => nomatch h⟩
  | cons a l ih =>
    obtain ⟨M, hM⟩ := ih
    refine ⟨M + a, fun x h => ?_⟩
    rcases List.mem_cons.mp h with rfl | h
    · omega
    · have := hM x h; omega
theorem bet_none {v : Nat} : Bet none v := fun _ z => nomatch z
theorem bet_some {e v : Nat} : Bet (some e) v ↔ v < e := ⟨fun h => h e rfl, fun h c z => by cases z; exact h⟩
/-- sets closed, behind: they keep what is the same -/
theorem Cl.congr {S : Nat → Nat → Nat → Prop} {A B : Nat → Nat → Prop} (h : ∀ x c, A x c → B x c) {x c : Nat} (q : Cl S A x c) : Cl S B x c := by
  induction q with
  | beg e => exact .beg (h _ _ e)
  | step _ s ih => exact .step ih s
end Fm
namespace Fm
open PySem L2
/-- book, machine, standings as the web makes them -/
structure Std (b : Book) (m : Mach) (sts : List Stg) : Prop where
  ok : SOk b m sts
  few : sts.length ≤ 4000
  how : ∃ rs, sts = stsOf m.1 rs ∧ PyProof.Rows.sortedS (rs.map sS) = true
/-- a finished web at sf -/
def Wb (C : Addr) (b : Book) (m : Mach) (sts : List Stg) (H : Hp) (sf : Addr) : Prop :=
  ∃ (H0 : Hp) (L : List MatD) (dx : Addr) (vb vm : V) (as : Addr) (xs : List V) (ah rd : Addr), WAt C H0 H b m sts L sf dx vb vm as xs ah rd ∧ Rows sts.length (keysOf b) L (Told b m sts)
theorem Wb.f {C : Addr} {b : Book} {m : Mach} {sts : List Stg} {H H' : Hp} {sf : Addr} (w : Wb C b m sts H sf) (f : Fe H H') : Wb C b m sts H' sf := by
  obtain ⟨H0, L, dx, vb, vm, as, xs, ah, rd, W, R⟩ := w
  exact ⟨H0, L, dx, vb, vm, as, xs, ah, rd, W.f f, R⟩
theorem Wb.ins {C : Addr} {b : Book} {m : Mach} {sts : List Stg} {H : Hp} {sf : Addr} (w : Wb C b m sts H sf) : ∃ dx vb vm as ah p0 rd xs, H sf = some (.ins C dx (wfl vb vm (.ref as) (.ref ah) (.ref p0) (.ref rd))) ∧ H as = some (.lst xs) ∧ Al (rP rN rS) H xs sts := by
  obtain ⟨H0, L, dx, vb, vm, as, xs, ah, rd, W, R⟩ := w
  obtain ⟨p0, _, h⟩ := W.ins
  exact ⟨dx, vb, vm, as, ah, p0, rd, xs, h, W.hs, W.hx⟩
theorem Rows.here {H0 H : Hp} {n : Nat} {ks : List (Option Nat)} {L : List MatD} {S : Option Nat → Nat → Nat → Nat → Prop} (R : Rows n ks L S) (M : Mats H0 H L) {j h : Nat} {k : Option Nat} (hk : ks[j]? = some k) (hh : h < n) :
    ∃ d q ys row, L[j]? = some d ∧ H d.1 = some (.lst (d.2.1.map V.ref)) ∧ d.2.1[h]? = some q ∧ H q = some (.lst ys) ∧ Al rMv H ys row ∧ ∀ to c, (to, c, ()) ∈ row ↔ S k h to c := by
  have hj : j < L.length := by rw [R.len]; exact (List.getElem?_eq_some_iff.mp hk).1
  have hd : L[j]? = some L[j] := List.getElem?_eq_getElem hj
  have hm := List.mem_of_getElem? hd
  have hh' : h < (L[j]).2.2.length := by rw [R.rl _ hm]; exact hh
  have hr : (L[j]).2.2[h]? = some ((L[j]).2.2[h]'hh') := List.getElem?_eq_getElem hh'
  obtain ⟨q, ys, h1, _, h2, h3⟩ := (M.mat _ hm).get hr
  refine ⟨L[j], q, ys, _, hd, (M.mat _ hm).at_, h1, h2, h3, fun to c => ?_⟩
  have := R.ed j k _ h to c hk hd
  constructor
  · intro z; exact (this.mp ⟨_, hr, z⟩).2
  · intro z
    obtain ⟨row, h4, h5⟩ := this.mpr ⟨hh, z⟩
    rw [hr] at h4; cases h4
    exact h5
theorem told_lt {b : Book} {m : Mach} {sts : List Stg} {k : Option Nat} {h to c : Nat} (t : Told b m sts k h to c) : h < sts.length ∧ to < sts.length := by
  obtain ⟨s, s', h1, h2, _⟩ := t
  exact ⟨(List.getElem?_eq_some_iff.mp h1).1, (List.getElem?_eq_some_iff.mp h2).1⟩
/-- costs of moves are costs of the book, or 0 -/
theorem told_cost {b : Book} {m : Mach} {sts : List Stg} {k : Option Nat} {h to c : Nat} (t : Told b m sts k h to c) : c = 0 ∨ c ∈ b.2.map fun e => e.2.2 := by
  obtain ⟨s, s', _, _, h3⟩ := t
  cases k with
  | none =>
    obtain ⟨_, _, wr, h4, _⟩ := h3
    exact .inr (List.mem_map.mpr ⟨_, h4, rfl⟩)
  | some x =>
    rcases h3 with ⟨_, _, _, h4⟩ | ⟨_, _, _, h4⟩ | ⟨_, rd, wr, h4, _⟩
    · exact .inl h4
    · exact .inl h4
    · exact .inr (List.mem_map.mpr ⟨_, h4, rfl⟩)
abbrev vN (n : Nat) : V := .int (n : Int)
theorem inV_nats (x : Nat) (l : List Nat) : inV (vN x) (l.map vN) = decide (x ∈ l) := by
  unfold inV
  rw [Bool.eq_iff_iff, List.any_eq_true, decide_eq_true_eq]
  constructor
  · rintro ⟨y, hy, e⟩
    obtain ⟨z, hz, rfl⟩ := List.mem_map.mp hy
    have e' : ((z : Int) == (x : Int)) = true := e
    have := eq_of_beq e'
    have : z = x := by omega
    exact this ▸ hz
  · intro h
    exact ⟨_, List.mem_map.mpr ⟨x, h, rfl⟩, by show ((x : Int) == (x : Int)) = true; exact beq_self_eq_true _⟩
theorem flat_nats (l : List Nat) : (l.map vN).all flatV = true := by
  rw [List.all_eq_true]
  intro v hv
  obtain ⟨z, _, rfl⟩ := List.mem_map.mp hv
  rfl
def fr (told : CRow) (i : Nat) : List Nat := (List.range i).filter fun h => (told[h]?.getD none).isSome
theorem fr_succ (told : CRow) (i : Nat) : fr told (i + 1) = fr told i ++ (if (told[i]?.getD none).isSome then [i] else []) := by
  unfold fr
  rw [List.range_succ, List.filter_append]
  refine congrArg (fun z => List.filter _ (List.range i) ++ z) ?_
  rw [List.filter_cons]
  split <;> rfl
theorem fr_mem {told : CRow} {i h : Nat} : h ∈ fr told i ↔ h < i ∧ ∃ c, told[h]? = some (some c) := by
  unfold fr
  rw [List.mem_filter, List.mem_range]
  refine and_congr_right fun _ => ?_
  cases e : told[h]? with
  | none => simp
  | some o => cases o <;> simp
theorem fr_len (told : CRow) (i : Nat) : (fr told i).length ≤ i := by
  unfold fr
  exact Nat.le_trans (List.length_filter_le _ _) (by rw [List.length_range]; exact Nat.le_refl _)
def Rxs (S : Nat → Nat → Nat → Prop) (told : CRow) (X : Nat → Prop) : Prop := ∀ h to d, ¬ X h → S h to d → Rx told h to d
theorem at_oV {l : CRow} {i : Nat} {o : Option Nat} (h : l[i]? = some o) : (l.map oV)[i]? = some (oV o) := by rw [List.getElem?_map, h]; rfl
theorem set_oV (l : CRow) (i v : Nat) : (l.map oV).set i (vN v) = (l.set i (some v)).map oV := by rw [List.map_set]; rfl
def spClosed (C : Addr) : Sp := fun vs H Q _ => ∃ (b : Book) (m : Mach) (sts : List Stg) (sf : Addr) (v : V) (row : CRow) (A : Nat → Nat → Prop), vs = [.ref sf, v] ∧ Wb C b m sts H sf ∧ Std b m sts ∧ rL (rO rN) H v row ∧ LRow sts.length A row ∧
  ∀ (p : Addr) (H' : Hp) (row' : CRow), Fe H H' → H p = none → H' p = some (.lst (row'.map oV)) → LRow sts.length (Cl (Told b m sts none) A) row' → Q (.ref p) H'
theorem some_set {row : CRow} {to v h c : Nat} (e : row[h]? = some (some c)) : ∃ c', (row.set to (some v))[h]? = some (some c') := by
  rw [List.getElem?_set]
  by_cases q : to = h
  · subst q
    rw [if_pos rfl, if_pos (List.getElem?_eq_some_iff.mp e).1]
    exact ⟨_, rfl⟩
  · rw [if_neg q]; exact ⟨c, e⟩
def CLW (sf a p : Addr) (H : Hp) (n : Nat) (S : Nat → Nat → Nat → Prop) (A0 : Nat → Nat → Prop) (M D : Nat) (k : Nat) (σ' : L2.St) (H' : Hp) : Prop :=
  ∃ (told : CRow) (fs : List Nat) (F : Addr) (o4 o5 o6 o7 o8 : Option V), σ' = [some (.ref sf), some (.ref a), some (.ref p), some (.ref F), o4, o5, o6, o7, o8] ∧ Fe H H' ∧ F ≠ p ∧
    H' p = some (.lst (told.map oV)) ∧ H' F = some (.lst (fs.map vN)) ∧ Rlx n S A0 M D told ∧ (∀ h ∈ fs, h < n ∧ ∃ c, told[h]? = some (some c)) ∧ Rxs S told (· ∈ fs) ∧ k = 2 * Phi (M + n * D) told + (if fs = [] then 0 else 1)
def CLI (sf a p F G : Addr) (H : Hp) (n : Nat) (S : Nat → Nat → Nat → Prop) (A0 : Nat → Nat → Prop) (M D : Nat) (fs : List Nat) (i h c ph : Nat) (mv : List (Nat × Nat × Unit)) (j : Nat) (σ' : L2.St) (H2 : Hp) : Prop :=
  ∃ (told' : CRow) (ks : List Nat) (o6 o7 o8 : Option V), σ' = [some (.ref sf), some (.ref a), some (.ref p), some (.ref F), some (.ref G), some (vN h), o6, o7, o8] ∧ Fe H H2 ∧
    H2 p = some (.lst (told'.map oV)) ∧ H2 F = some (.lst (fs.map vN)) ∧ H2 G = some (.dK (tks kN ks)) ∧ ks.Nodup ∧ Rlx n S A0 M D told' ∧ (∀ h ∈ fs, h < n ∧ ∃ c, told'[h]? = some (some c)) ∧
    (∀ h ∈ ks, h < n ∧ ∃ c, told'[h]? = some (some c)) ∧ told'[h]? = some (some c) ∧ Rxs S told' (fun h' => h' ∈ fs.drop (i + 1) ∨ h' ∈ ks ∨ h' = h) ∧ (∀ to d, (to, d, ()) ∈ mv.take j → Rx told' h to d) ∧
    Phi (M + n * D) told' ≤ ph ∧ (ks ≠ [] → Phi (M + n * D) told' < ph)
section
variable {P : Program} {w : World} {K : PySem.W.Frag} {g : Str → Option Value} {base : Heap}
theorem ok_MoveWeb_closed (T : Txt K g) : FnOk P w K g base CX0 1 T.d_MoveWeb_closed.f T.d_MoveWeb_closed.fd P_MoveWeb_closed (spClosed T.c_MoveWeb) := by
  refine T.d_MoveWeb_closed.F.ok sc_MoveWeb_closed (fun vs H Q E h => ?_) (fun cdv A outer s H vs Q E hr h => ?_)
  · obtain ⟨_, _, _, _, _, _, _, rfl, _⟩ := h
    rfl
  · obtain ⟨b, m, sts, sf, v, row, A, rfl, hw, sd, hrow, hA, kk⟩ := h
    have hu := hu_of hr
    refine ⟨_, (pss_cons (ps_set (i := 2) sc_MoveWeb_closed.nd rfl (by first | exact Or.inl rfl | exact Or.inr rfl) (pe_callTy (kc_list (K := K) rfl) (by rfl) T.z_list (by decide +kernel) (pa_cons (pv 1) pa_nil)))
    (pss_cons (ps_setLc (i := 3) (own := [("home", 5), ("cost", 7)]) rfl sc_MoveWeb_closed.nd rfl rfl (sw_true rfl rfl rfl (by decide +kernel)) (ki_enum (K := K) rfl rfl T.z_enumerate (pa_cons (pv 2) pa_nil)) (blkOk_by (N := N_MoveWeb_closed) (sc := defScope s_MoveWeb_closed) (by decide +kernel)) (fun _ _ _ _ _ => by exact (kg_tup (K := K) 2 rfl rfl (pgs_cons (pg_name (i := 5) sc_MoveWeb_closed.nd rfl (by first | exact Or.inl rfl | exact Or.inr rfl)) (pgs_cons (pg_name (i := 7) sc_MoveWeb_closed.nd rfl (by first | exact Or.inl rfl | exact Or.inr rfl)) pgs_nil)))) (fun _ _ _ _ _ => by exact pts_one (pt_cmpR op_notN (pv 7) pe_non (nomark _))) (fun _ _ _ _ _ => by exact (pv 5)))
    (pss_cons (ps_while PassesOwn.never (kt_truth (K := K) rfl (pv 3))
      (pss_cons (ps_set (i := 4) sc_MoveWeb_closed.nd rfl (by first | exact Or.inl rfl | exact Or.inr rfl) pe_dnewK)
      (pss_cons (ps_for PassesOwn.never rfl (ki_list (K := K) rfl (pv 3)) (pg_name (i := 5) sc_MoveWeb_closed.nd rfl (by first | exact Or.inl rfl | exact Or.inr rfl))
        (pss_one (ps_for PassesOwn.never rfl (ki_list (K := K) rfl (pe_ix (kx_list (K := K) rfl) (ke_fld (K := K) rfl (pv 0) rfl) (pv 5) (fun _ _ => rfl))) (kg_tup (K := K) 3 rfl rfl (pgs_cons (pg_name (i := 6) sc_MoveWeb_closed.nd rfl (by first | exact Or.inl rfl | exact Or.inr rfl)) (pgs_cons (pg_name (i := 7) sc_MoveWeb_closed.nd rfl (by first | exact Or.inl rfl | exact Or.inr rfl)) (pgs_cons (pg_name (i := 8) sc_MoveWeb_closed.nd rfl (by first | exact Or.inl rfl | exact Or.inr rfl)) pgs_nil))))
          (pss_one (ps_if (PW.pt (pw_or (pt_cmpR op_isN (pe_ix (kx_list (K := K) rfl) (pv 2) (pv 6) (fun _ _ => rfl)) pe_non (nomark _)) (pw_or1 (pt_cmpR op_lt (pe_op op_add (pe_ix (kx_list (K := K) rfl) (pv 2) (pv 5) (fun _ _ => rfl)) (pv 7)) (pe_ix (kx_list (K := K) rfl) (pv 2) (pv 6) (fun _ _ => rfl)) (nomark _)))))
            (pss_cons (ps_asg (pe_op op_add (pe_ix (kx_list (K := K) rfl) (pv 2) (pv 5) (fun _ _ => rfl)) (pv 7)) (pg_sub (pv 2) (pv 6) set_list))
            (pss_one (ps_dput hu (pv 4) (pv 6) pe_bl rfl)))
            pss_nil)))))
      (pss_one (ps_set (i := 3) sc_MoveWeb_closed.nd rfl (by first | exact Or.inl rfl | exact Or.inr rfl) (pe_callTy (kc_listD rfl) (by rfl) T.z_list (by decide +kernel) (pa_cons (pv 4) pa_nil)))))))
    (pss_one (ps_ret (pv 2)))))), ?_⟩
    obtain ⟨a, xs, rfl, ha, hxs⟩ := id hrow
    have hxo := hxs.opts
    subst hxo
    have hfew := sd.few
    have hlen := hA.len
    -- told = list(row)
    refine ⟨_, rfl, a, _, rfl, .inl (SqL.of ha), fun p hp => ?_⟩
    have e0 : Fe H (upd H p (.lst (row.map oV))) := Fe.new hp
    -- fresh
    refine ⟨_, rfl, p, _, rfl, SqL.of upd_same, fun F hF => lc_by row.length (fun i H' => Cmp rN _ F (fr row i) H' ∧ H' p = some (.lst (row.map oV))) ⟨Cmp.start hF, by rw [upd_ne (ne_of_none upd_same hF)]; exact upd_same⟩ (fun i H' hi c => ?_) (fun H' c => ?_) ?_ ?_⟩
    · exact enum_go c.2 (by rw [List.length_map]; exact hi)
    · exact enum_stop c.2 (by rw [List.length_map]; exact Nat.le_refl _)
    · intro i x H' H4 hi c hyd
      obtain ⟨U, y, rfl, hU, rfl, hy⟩ := enum_yld c.2 hyd
      clear hyd
      rw [at_oV (List.getElem?_eq_getElem hi)] at hy
      cases hy
      have fU : Fe H' (upd H' U (.tup [.int (i : Int), oV row[i]])) := Fe.new hU
      refine ⟨U, _, rfl, SqT.of upd_same, rfl, _, _, rfl, _, _, rfl, rfl, rfl, ?_⟩
      have q := fr_succ row i
      rw [List.getElem?_eq_getElem hi] at q
      have hfl : (fr row i).length < 1000000 := by have := fr_len row i; omega
      have nF : p ≠ F := ne_of_none upd_same hF
      cases hc : row[i] with
      | none =>
        rw [hc] at q
        rw [show fr row (i + 1) = fr row i from q.trans (List.append_nil _)]
        rw [hc] at fU
        exact ⟨_, rfl, rfl, _, rfl, iteF ⟨c.1.skip fU, fU.k c.2⟩⟩
      | some d =>
        rw [hc] at q
        rw [show fr row (i + 1) = fr row i ++ [i] from q]
        rw [hc] at fU
        refine ⟨_, rfl, rfl, _, rfl, iteT ⟨_, rfl, ?_⟩⟩
        obtain ⟨acc, h1, h2, h3⟩ := c.1.add hfl fU (show rN _ (vN i) i from rfl)
        exact ⟨acc, h1, h2, h3, by rw [upd_ne nF]; exact fU.k c.2⟩
    · intro H1 c
      obtain ⟨_, xs0, eF, hFx, hFl⟩ := c.1.rl
      cases eF
      have e1 := e0.trans c.1.fe
      obtain ⟨M, hM⟩ := row_max row
      obtain ⟨D, hD⟩ := list_max (b.2.map fun e => e.2.2)
      have hDS : ∀ h to d, Told b m sts none h to d → d ≤ D := fun h to d t => by
        rcases told_cost t with rfl | h
        · exact Nat.zero_le _
        · exact hD _ h
      have hfn := hFl.nats
      subst hfn
      have nF : F ≠ p := (ne_of_none upd_same hF).symm
      have hn : ∀ h c, row[h]? = some (some c) → h < row.length := fun h c e => (List.getElem?_eq_some_iff.mp e).1
      refine ⟨CLW sf a p H sts.length (Told b m sts none) A M D, ⟨_, row, fr row row.length, F, _, _, _, _, _, rfl, e1, nF, c.2, hFx, .start hA hM, fun h hh => ?_, fun h to d hnot s c' hc' => ?_, rfl⟩, ?_⟩
      · obtain ⟨h1, h2⟩ := fr_mem.mp hh
        exact ⟨by omega, h2⟩
      · exact absurd (fr_mem.mpr ⟨hn h c' hc', c', hc'⟩) hnot
      clear hFx hFl nF c
      rintro k σ' H' ⟨told, fs, F, o4, o5, o6, o7, o8, rfl, e, nF, hP, hFx, R, hfs, rx, rfl⟩
      refine ⟨_, rfl, !(fs.map vN).isEmpty, .inl ⟨_, SqL.of hFx, rfl⟩, ?_⟩
      cases hfse : fs with
      | nil =>
        subst hfse
        exact iteF ⟨_, rfl, kk p H' told e hp hP (R.done fun k to d s => rx k to d (by simp) s)⟩
      | cons f0 fs0 =>
        refine iteT ⟨fun σ2 H2 => ∃ k', k' < 2 * Phi (M + sts.length * D) told + (if f0 :: fs0 = [] then 0 else 1) ∧ CLW sf a p H sts.length (Told b m sts none) A M D k' σ2 H2, fun _ _ z => z, ?_⟩
        rw [← hfse]
        have hne : fs ≠ [] := by rw [hfse]; exact fun z => nomatch z
        clear hfse f0 fs0
        rw [if_neg hne]
        intro G hG
        have eG : Fe H' (upd H' G (.dK [])) := Fe.new hG
        refine ⟨_, rfl, F, rfl, ⟨_, SqL.of (eG.k hFx)⟩, for_lst (xs := fs.map vN) (fun i σ' H2 => ∃ (told' : CRow) (ks : List Nat) (o5 o6 o7 o8 : Option V), σ' = [some (.ref sf), some (.ref a), some (.ref p), some (.ref F), some (.ref G), o5, o6, o7, o8] ∧ Fe H H2 ∧
          H2 p = some (.lst (told'.map oV)) ∧ H2 F = some (.lst (fs.map vN)) ∧ H2 G = some (.dK (tks kN ks)) ∧ ks.Nodup ∧ Rlx sts.length (Told b m sts none) A M D told' ∧ (∀ h ∈ fs, h < sts.length ∧ ∃ c, told'[h]? = some (some c)) ∧
          (∀ h ∈ ks, h < sts.length ∧ ∃ c, told'[h]? = some (some c)) ∧ Rxs (Told b m sts none) told' (fun h => h ∈ fs.drop i ∨ h ∈ ks) ∧ Phi (M + sts.length * D) told' ≤ Phi (M + sts.length * D) told ∧ (ks ≠ [] → Phi (M + sts.length * D) told' < Phi (M + sts.length * D) told))
          ⟨told, [], _, _, _, _, rfl, e.trans eG, eG.k hP, eG.k hFx, upd_same, List.nodup_nil, R, hfs, (fun _ z => nomatch z), fun h to d q s => rx h to d (fun z => q (.inl z)) s, Nat.le_refl _, fun z => absurd rfl z⟩ (fun i σ' H2 _ ⟨_, _, _, _, _, _, _, _, _, q, _⟩ => q) ?_ ?_⟩
        · rintro i x σ' H2 hx ⟨told', ks, o5, o6, o7, o8, rfl, e2, hP2, hF2, hG2, hkn, R2, hfs2, hks2, rx2, ph1, ph2⟩
          have hi : i < fs.length := by
            have := (List.getElem?_eq_some_iff.mp hx).1
            rwa [List.length_map] at this
          rw [List.getElem?_map, List.getElem?_eq_getElem hi] at hx
          cases hx
          obtain ⟨hhn, c, hc⟩ := hfs2 fs[i] (List.getElem_mem hi)
          have hdrop : fs.drop i = fs[i] :: fs.drop (i + 1) := List.drop_eq_getElem_cons hi
          rw [hdrop] at rx2
          generalize fs[i] = h at hhn hc hdrop rx2 ⊢
          obtain ⟨H0, L, dx, vb, vm, as, ss, ah, rd, W, Rw⟩ := id hw
          obtain ⟨p0, hp0, hins⟩ := W.ins
          obtain ⟨d, q, ys, mv, hd, hd1, hq, hys, hal, hmv⟩ := Rw.here W.mats (j := 0) (k := none) rfl hhn
          have ep : p0 = d.1 := by
            rw [List.getElem?_map, hd] at hp0
            exact (Option.some.inj hp0).symm
          subst ep
          refine ⟨_, rfl, sf, _, dx, _, _, rfl, e2.k hins, T.cl_MoveWeb, T.na_MoveWeb_silent, wfl_l, _, rfl, d.1, _, _, .ref q, rfl, rfl, SqL.of (e2.k hd1), atI_nat (by rw [List.getElem?_map, hq]; rfl), q, rfl, ⟨_, SqL.of (e2.k hys)⟩, for_lst (xs := ys) (CLI sf a p F G H sts.length (Told b m sts none) A M D fs i h c (Phi (M + sts.length * D) told) mv)
            ⟨told', ks, _, _, _, rfl, e2, hP2, hF2, hG2, hkn, R2, hfs2, hks2, hc, fun h' to d z s => rx2 h' to d (fun z' => z (z'.elim (fun z' => (List.mem_cons.mp z').elim (fun z' => .inr (.inr z')) .inl) (fun z' => .inr (.inl z')))) s, (fun _ _ z => nomatch z), ph1, ph2⟩
            (fun j σ' H2 _ ⟨_, _, _, _, _, _, e, _⟩ => e.k hys) ?_ ?_⟩
          · clear hdrop rx2 hks2 hfs2 hkn hG2 hF2 hP2 e2 R2 hc ph1 ph2
            rintro j x σ' H3 hx ⟨told1, k1, o6, o7, o8, rfl, e3, hP3, hF3, hG3, hkn, R3, hfs3, hks3, hc, rx3, hmj, ph1, ph2⟩
            obtain ⟨⟨to, cost, u⟩, hto, hxr⟩ := hal.get hx
            obtain ⟨ua, x1, x2, x3, rfl, hua, rfl, rfl, _⟩ := id hxr
            have hS : Told b m sts none h to cost := (hmv to cost).mp (List.mem_of_getElem? hto)
            have hton := (told_lt hS).2
            obtain ⟨oo, hto1⟩ : ∃ oo, told1[to]? = some oo := ⟨told1[to]'(by rw [R3.len]; exact hton), List.getElem?_eq_getElem (by rw [R3.len]; exact hton)⟩
            have htk : mv.take (j + 1) = mv.take j ++ [(to, cost, u)] := by rw [List.take_add_one, hto]; rfl
            have hkl : k1.length ≤ 4000 := Nat.le_trans (nodup_below sts.length k1 hkn fun x hx => (hks3 x hx).1) hfew
            refine ⟨ua, _, rfl, SqT.of (e3.k hua), rfl, _, _, rfl, _, _, rfl, _, _, rfl, rfl, ?_⟩
            have nGp : G ≠ p := ne_of hG3 hP3 (fun z => nomatch z)
            have nFG : F ≠ G := ne_of hF3 hG3 (fun z => nomatch z)
            have fin : Bet oo (c + cost) → CLI sf a p F G H sts.length (Told b m sts none) A M D fs i h c (Phi (M + sts.length * D) told) mv (j + 1) [some (.ref sf), some (.ref a), some (.ref p), some (.ref F), some (.ref G), some (vN h), some (vN to), some (vN cost), some x3]
                (upd (upd H3 p (.lst ((told1.map oV).set to (vN (c + cost))))) G (.dK (putK (tks kN k1) (kN to) (.bl true)))) := by
              intro hb
              obtain ⟨R4, ph4⟩ := R3.put hc hS (hDS _ _ _ hS) hto1 hb
              have hne : h ≠ to := by
                intro z
                subst z
                rw [hc] at hto1
                cases hto1
                exact absurd (hb c rfl) (by omega)
              refine ⟨told1.set to (some (c + cost)), ins to k1, _, _, _, rfl, (e3.mut hp).mut (e.free hG), ?_, ?_, ?_, nd_ins hkn, R4, fun x hx => ⟨(hfs3 x hx).1, ?_⟩, fun x hx => ?_, ?_, fun h' t2 d2 z s => ?_, fun t2 d2 hm => ?_, by omega, fun _ => by omega⟩
              · rw [upd_ne nGp.symm, upd_same, set_oV]
              · rw [upd_ne nFG, upd_ne nF]; exact hF3
              · rw [upd_same, tks_put kN kN_inj]
              · obtain ⟨c', hc'⟩ := (hfs3 x hx).2
                exact some_set hc'
              · rcases mem_ins.mp hx with rfl | hx
                · exact ⟨hton, c + cost, by rw [List.getElem?_set, if_pos rfl, if_pos (List.getElem?_eq_some_iff.mp hto1).1]⟩
                · obtain ⟨c', hc'⟩ := (hks3 x hx).2
                  exact ⟨(hks3 x hx).1, some_set hc'⟩
              · rw [List.getElem?_set, if_neg hne.symm]; exact hc
              · have n1 : h' ≠ to := fun q => z (.inr (.inl (mem_ins.mpr (.inl q))))
                exact Rx.put hto1 hb n1 (rx3 h' t2 d2 (fun q => z (q.elim .inl fun q => q.elim (fun q => .inr (.inl (mem_ins.mpr (.inr q)))) fun q => .inr (.inr q))) s)
              · rw [htk] at hm
                rcases List.mem_append.mp hm with hm | hm
                · exact Rx.put hto1 hb hne (hmj t2 d2 hm)
                · have q := List.mem_singleton.mp hm
                  injection q with q1 q2
                  injection q2 with q2 _
                  subst q1 q2
                  exact Rx.here hc hto1 hb
            have stay : ¬ Bet oo (c + cost) → CLI sf a p F G H sts.length (Told b m sts none) A M D fs i h c (Phi (M + sts.length * D) told) mv (j + 1) [some (.ref sf), some (.ref a), some (.ref p), some (.ref F), some (.ref G), some (vN h), some (vN to), some (vN cost), some x3] H3 := by
              intro hb
              refine ⟨told1, k1, _, _, _, rfl, e3, hP3, hF3, hG3, hkn, R3, hfs3, hks3, hc, rx3, fun t2 d2 hm => ?_, ph1, ph2⟩
              rw [htk] at hm
              rcases List.mem_append.mp hm with hm | hm
              · exact hmj t2 d2 hm
              · have q := List.mem_singleton.mp hm
                injection q with q1 q2
                injection q2 with q2 _
                subst q1 q2
                exact Rx.well hc hto1 hb
            have sz : (tks kN k1).length + 1 ≤ sizeLine := by rw [tks_len, sizeLine_eq]; omega
            have hto2 : to < (told1.map oV).length := by rw [List.length_map]; exact (List.getElem?_eq_some_iff.mp hto1).1
            have hG4 : (upd H3 p (.lst ((told1.map oV).set to (vN (c + cost))))) G = some (.dK (tks kN k1)) := by rw [upd_ne nGp]; exact hG3
            refine ⟨_, rfl, _, rfl, p, _, _, _, rfl, rfl, SqL.of hP3, atI_nat (at_oV hto1), rfl, _, rfl, ?_⟩
            cases oo with
            | none =>
              refine iteT (iteT ?_)
              refine ⟨_, rfl, _, rfl, p, _, _, _, rfl, rfl, SqL.of hP3, atI_nat (at_oV hc), _, rfl, _, _, rfl, rfl, _, rfl, _, rfl, p, _, _, _, rfl, rfl, hP3, ixn hto2, ?_⟩
              exact ⟨_, rfl, _, rfl, G, _, rfl, DPut.k (k := kN to) hG4 sz, fin bet_none⟩
            | some e4 =>
              refine iteF ⟨_, rfl, _, rfl, p, _, _, _, rfl, rfl, SqL.of hP3, atI_nat (at_oV hc), _, rfl, _, _, rfl, rfl, _, rfl, _, rfl, p, _, _, _, rfl, rfl, SqL.of hP3, atI_nat (at_oV hto1), _, _, rfl, rfl, _, rfl, ?_⟩
              by_cases hl : c + cost < e4
              · rw [decide_eq_true (show ((c : Int) + (cost : Int) < (e4 : Int)) by omega)]
                refine iteT ?_
                refine ⟨_, rfl, _, rfl, p, _, _, _, rfl, rfl, SqL.of hP3, atI_nat (at_oV hc), _, rfl, _, _, rfl, rfl, _, rfl, _, rfl, p, _, _, _, rfl, rfl, hP3, ixn hto2, ?_⟩
                exact ⟨_, rfl, _, rfl, G, _, rfl, DPut.k (k := kN to) hG4 sz, fin (bet_some.mpr hl)⟩
              · rw [decide_eq_false (show ¬ ((c : Int) + (cost : Int) < (e4 : Int)) by omega)]
                exact iteF (stay fun z => hl (bet_some.mp z))
          · rintro σ' H3 ⟨told1, k1, o6, o7, o8, rfl, e3, hP3, hF3, hG3, hkn, R3, hfs3, hks3, hc, rx3, hmj, ph1, ph2⟩
            refine ⟨told1, k1, _, _, _, _, rfl, e3, hP3, hF3, hG3, hkn, R3, hfs3, hks3, fun h' to d z s => ?_, ph1, ph2⟩
            rw [hal.len, List.take_length] at hmj
            by_cases q : h' = h
            · subst q
              exact hmj to d ((hmv to d).mpr s)
            · exact rx3 h' to d (fun z' => z (z'.elim .inl fun z' => z'.elim .inr fun z' => absurd z' q)) s
        · rintro σ' H2 ⟨told', ks, o5, o6, o7, o8, rfl, e2, hP2, hF2, hG2, hkn, R2, hfs2, hks2, rx2, ph1, ph2⟩
          refine ⟨_, rfl, G, _, rfl, .inl hG2, fun F2 hF2n => ?_⟩
          have eF2 : Fe H2 (upd H2 F2 (.lst ((tks kN ks).map fun kv => kV kv.1))) := Fe.new hF2n
          refine ⟨_, ?_, told', ks, F2, _, _, _, _, _, rfl, e2.trans eF2, (ne_of_none hP2 hF2n).symm, eF2.k hP2, ?_, R2, hks2, fun h to d z s => rx2 h to d (fun z' => z'.elim (fun z2 => ?_) z) s, rfl⟩
          · by_cases z : ks = []
            · rw [if_pos z]; omega
            · rw [if_neg z]; have := ph2 z; omega
          · rw [upd_same]
            refine congrArg some (congrArg HO.lst ?_)
            unfold tks
            rw [List.map_map]; rfl
          · rw [List.length_map, List.drop_length] at z2
            exact nomatch z2
end
end Fm
/-! the least number of a set, as a function -/
namespace Fm
open PySem L2
theorem least_ex (A : Nat → Prop) : ∃ o, Least A o := by
  by_cases h : ∃ c, A c
  · obtain ⟨c, hc⟩ := h
    induction c using Nat.strongRecOn with
    | _ c ih =>
      by_cases q : ∃ d, d < c ∧ A d
      · obtain ⟨d, h1, h2⟩ := q
        exact ih d h1 h2
      · exact ⟨some c, hc, fun d hd => Nat.le_of_not_lt fun l => q ⟨d, l, hd⟩⟩
  · exact ⟨none, fun c hc => h ⟨c, hc⟩⟩
noncomputable def least (A : Nat → Prop) : Option Nat := Classical.choose (least_ex A)
theorem least_is (A : Nat → Prop) : Least A (least A) := Classical.choose_spec (least_ex A)
theorem least_eq {A : Nat → Prop} {o : Option Nat} (h : Least A o) : least A = o := (least_is A).uniq h
theorem Least.eq {A : Nat → Prop} {o : Option Nat} (h : Least A o) : o = least A := h.uniq (least_is A)
/-- sets with the same least number: each holds something at most what the other one holds -/
theorem least_same {A B : Nat → Prop} (h1 : ∀ c, A c → ∃ d, B d ∧ d ≤ c) (h2 : ∀ c, B c → ∃ d, A d ∧ d ≤ c) : least A = least B := by
  apply least_eq
  cases e : least B with
  | none =>
    intro c hc
    obtain ⟨d, hd, _⟩ := h1 c hc
    have := least_is B
    rw [e] at this
    exact this d hd
  | some b =>
    have hb := least_is B
    rw [e] at hb
    obtain ⟨d, hd, hl⟩ := h2 b hb.1
    obtain ⟨d2, hd2, hl2⟩ := h1 d hd
    have h3 := hb.2 d2 hd2
    have : d = b := by omega
    subst this
    refine ⟨hd, fun c hc => ?_⟩
    obtain ⟨d3, hd3, hl3⟩ := h1 c hc
    have := hb.2 d3 hd3
    omega
theorem least_congr {A B : Nat → Prop} (h : ∀ c, A c ↔ B c) : least A = least B := by
  have : A = B := funext fun c => propext (h c)
  rw [this]
theorem joinL_chars : ∀ l : List Nat, TL.joinL [] (l.map fun c => [c]) = l
  | [] => rfl
  | [c] => rfl
  | c :: d :: l => by
    show [c] ++ ([] ++ TL.joinL [] ((d :: l).map fun c => [c])) = _
    rw [joinL_chars (d :: l)]; rfl
theorem join_chars (l : List Nat) : PySem.Txt.join ⟨([] : List Nat).toArray⟩ ((l.map fun c => [c]).map SX.S) = ⟨l.toArray⟩ := by
  have := SX.join_S [] (l.map fun c => [c])
  rw [joinL_chars] at this
  exact this
theorem oV_scal (o p : Option Nat) : scal (oV o) (oV p) = true := by cases o <;> cases p <;> rfl
theorem oV_dec (o p : Option Nat) : decide (oV o = oV p) = decide (o = p) := by
  have : (oV o = oV p) ↔ o = p := by
    constructor
    · intro h
      cases o with
      | none => cases p with
        | none => rfl
        | some d => cases h
      | some c => cases p with
        | none => cases h
        | some d =>
          have := V.int.inj h
          rw [Int.ofNat.inj this]
    · intro h; rw [h]
  exact decide_eq_decide.mpr this
theorem rep_oV (n : Nat) : (List.replicate n [V.non]).flatten = (List.replicate n none : CRow).map oV := by
  induction n with
  | zero => rfl
  | succ n ih => rw [List.replicate_succ, List.replicate_succ, List.flatten_cons, ih]; rfl
theorem oV_none {o : Option Nat} : decide (oV o = V.non) = o.isNone := by
  cases o <;> rfl
end Fm
namespace Fm
open PySem L2
def A0 (sts : List Stg) (h c : Nat) : Prop := sts[h]? = some (0, []) ∧ c = 0
def nxt (b : Book) (m : Mach) (sts : List Stg) (A : Nat → Nat → Prop) (x : Nat) : Nat → Nat → Prop := Cl (Told b m sts none) (Bh (Told b m sts (some x)) A)
def Rc (b : Book) (m : Mach) (sts : List Stg) (t : List Nat) : Nat → Nat → Prop := t.foldl (nxt b m sts) (Cl (Told b m sts none) (A0 sts))
/-- what a def that returns a cost row promises -/
def RowQ (H : Hp) (n : Nat) (A : Nat → Nat → Prop) (Q : VK) : Prop := ∀ (p : Addr) (H' : Hp) (row' : CRow), Fe H H' → H p = none → H' p = some (.lst (row'.map oV)) → LRow n A row' → Q (.ref p) H'
def spBegun (C : Addr) : Sp := fun vs H Q _ => ∃ (b : Book) (m : Mach) (sts : List Stg) (sf : Addr), vs = [.ref sf] ∧ Wb C b m sts H sf ∧ Std b m sts ∧ RowQ H sts.length (Cl (Told b m sts none) (A0 sts)) Q
def spBehind (C : Addr) : Sp := fun vs H Q _ => ∃ (b : Book) (m : Mach) (sts : List Stg) (sf : Addr) (v : V) (row : CRow) (A : Nat → Nat → Prop) (x : Nat), vs = [.ref sf, v, .str ⟨#[x]⟩] ∧ Wb C b m sts H sf ∧ Std b m sts ∧ rL (rO rN) H v row ∧ LRow sts.length A row ∧ x ∈ b.1 ∧
  RowQ H sts.length (nxt b m sts A x) Q
def spAlong (C : Addr) : Sp := fun vs H Q _ => ∃ (b : Book) (m : Mach) (sts : List Stg) (sf : Addr) (t : List Nat), vs = [.ref sf, .str ⟨t.toArray⟩] ∧ Wb C b m sts H sf ∧ Std b m sts ∧ (∀ x ∈ t, x ∈ b.1) ∧ RowQ H sts.length (Rc b m sts t) Q
def spLeastOf : Sp := fun vs H Q _ => ∃ (v : V) (l : CRow), vs = [v] ∧ rL (rO rN) H v l ∧ l.length ≤ 100000 ∧ ∀ H', Fe H H' → Q (oV (least fun c => some c ∈ l)) H'
theorem Std.start {b : Book} {m : Mach} {sts : List Stg} (s : Std b m sts) : ∃ i : Nat, sts[i]? = some (0, []) := s.ok.idx s.ok.mo.pos (.inl rfl)
theorem nxt_congr {b : Book} {m : Mach} {sts : List Stg} {n : Nat} {A : Nat → Nat → Prop} {x : Nat} {row : CRow} (h : LRow n A row) {told : CRow} (L : LRow n (Bh (Told b m sts (some x)) fun h c => row[h]? = some (some c)) told) : LRow n (Bh (Told b m sts (some x)) A) told :=
  L.imp (fun to c ⟨h0, c0, d, h1, h2, h3⟩ => ⟨h0, c0, d, h.snd h0 c0 h1, h2, h3⟩) (fun to c ⟨h0, c0, d, h1, h2, h3⟩ => by
    obtain ⟨c', h4, h5⟩ := h.low h0 c0 h1
    exact ⟨c' + d, ⟨h0, c', d, h4, h2, rfl⟩, by omega⟩)
section
variable {P : Program} {w : World} {K : PySem.W.Frag} {g : Str → Option Value} {base : Heap}
theorem ok_MoveWeb_behind (T : Txt K g) : FnOk P w K g base CX0 2 T.d_MoveWeb_behind.f T.d_MoveWeb_behind.fd P_MoveWeb_behind (spBehind T.c_MoveWeb) := by
  refine T.d_MoveWeb_behind.F.ok sc_MoveWeb_behind (fun vs H Q E h => ?_) (fun cdv A outer s H vs Q E hr h => ?_)
  · obtain ⟨_, _, _, _, _, _, _, _, rfl, _⟩ := h
    rfl
  · obtain ⟨b, m, sts, sf, v, row, B, x, rfl, hw, sd, hrow, hA, hx, kk⟩ := h
    have hu := hu_of hr
    refine ⟨_, (pss_cons (ps_set (i := 3) sc_MoveWeb_behind.nd rfl (by first | exact Or.inl rfl | exact Or.inr rfl) (pe_op op_rep (pe_lst (pa_cons pe_non pa_nil)) (pe_callB (kc_len (K := K) rfl) (by rfl) T.z_len PySem.boot_len (pa_cons (pv 1) pa_nil))))
    (pss_cons (ps_for PassesOwn.never rfl (ki_enum (K := K) rfl rfl T.z_enumerate (pa_cons (pv 1) pa_nil)) (kg_tup (K := K) 2 rfl rfl (pgs_cons (pg_name (i := 4) sc_MoveWeb_behind.nd rfl (by first | exact Or.inl rfl | exact Or.inr rfl)) (pgs_cons (pg_name (i := 5) sc_MoveWeb_behind.nd rfl (by first | exact Or.inl rfl | exact Or.inr rfl)) pgs_nil)))
      (pss_one (ps_if (pt_cmpR op_notN (pv 5) pe_non (nomark _))
        (pss_one (ps_for PassesOwn.never rfl (ki_list (K := K) rfl (pe_ix (kx_list (K := K) rfl) (pe_dget hu (ke_fld (K := K) rfl (pv 0) rfl) (pv 2) (fun _ _ => rfl)) (pv 4) (fun _ _ => rfl))) (kg_tup (K := K) 3 rfl rfl (pgs_cons (pg_name (i := 6) sc_MoveWeb_behind.nd rfl (by first | exact Or.inl rfl | exact Or.inr rfl)) (pgs_cons (pg_name (i := 7) sc_MoveWeb_behind.nd rfl (by first | exact Or.inl rfl | exact Or.inr rfl)) (pgs_cons (pg_name (i := 8) sc_MoveWeb_behind.nd rfl (by first | exact Or.inl rfl | exact Or.inr rfl)) pgs_nil))))
          (pss_one (ps_if (PW.pt (pw_or (pt_cmpR op_isN (pe_ix (kx_list (K := K) rfl) (pv 3) (pv 6) (fun _ _ => rfl)) pe_non (nomark _)) (pw_or1 (pt_cmpR op_lt (pe_op op_add (pv 5) (pv 7)) (pe_ix (kx_list (K := K) rfl) (pv 3) (pv 6) (fun _ _ => rfl)) (nomark _)))))
            (pss_one (ps_asg (pe_op op_add (pv 5) (pv 7)) (pg_sub (pv 3) (pv 6) set_list)))
            pss_nil))))
        pss_nil)))
    (pss_one (ps_ret (pe_meth (pv 0) T.cl_MoveWeb T.d_MoveWeb_closed.m (ok_MoveWeb_closed T) (hr.mono (by decide)) T.d_MoveWeb_closed.b .nil pass0 (pa_cons (pv 3) pa_nil)))))), ?_⟩
    obtain ⟨H0, L, dx, vb, vm, as, ss, ah, rd, W, Rw⟩ := id hw
    obtain ⟨p0, hp0, hins⟩ := W.ins
    have hfew := sd.few
    obtain ⟨a, xs, rfl, ha, hxs⟩ := id hrow
    have hxo := hxs.opts
    subst hxo
    have hlen := hA.len
    refine ⟨by show 1 ≤ sizeLine; decide, fun p1 hp1 => ?_⟩
    have f1 : Fe H (upd H p1 (.lst [V.non])) := Fe.new hp1
    refine ⟨_, rfl, a, _, rfl, .inl (SqL.of (f1.k ha)), p1, _, _, rfl, rfl, upd_same, by omega, by rw [List.length_map]; omega, by rw [sizeLine_eq, List.length_map]; simp only [List.length_singleton]; omega, fun p hp => ?_⟩
    have en : (List.replicate (((row.map oV).length : Nat) : Int).toNat [V.non]).flatten = (List.replicate sts.length none : CRow).map oV := by
      rw [rep_oV, Int.toNat_natCast, List.length_map, hlen]
    rw [en]
    have f2 := f1.trans (Fe.new (o := .lst ((List.replicate sts.length none : CRow).map oV)) hp)
    have hpn : H p = none := f1.free hp
    have hyl := hx
    obtain ⟨jj, hjj⟩ := List.mem_iff_getElem?.mp hyl
    have hkj : (keysOf b)[jj + 1]? = some (some x) := by
      show (b.1.map some)[jj]? = _
      rw [List.getElem?_map, hjj]; rfl
    -- for home, cost in enumerate(row)
    refine ⟨_, rfl, a, _, rfl, SqL.of (f2.k ha), for_enum (xs := row.map oV) (fun i σ' H' => ∃ (told : CRow) (o4 o5 o6 o7 o8 : Option V), σ' = [some (.ref sf), some (.ref a), some (.str ⟨#[x]⟩), some (.ref p), o4, o5, o6, o7, o8] ∧ Fe H H' ∧ H' p = some (.lst (told.map oV)) ∧
      LRow sts.length (Bh (Told b m sts (some x)) fun h c => h < i ∧ row[h]? = some (some c)) told)
      ⟨_, _, _, _, _, _, rfl, f2, upd_same, (LRow.nothing sts.length).imp (fun _ _ z => z.elim) (fun _ _ ⟨_, _, _, z, _⟩ => absurd z.1 (by omega))⟩ (fun i σ' H' _ ⟨_, _, _, _, _, _, _, e, _⟩ => e.k ha) ?_ ?_⟩
    · rintro i y σ' H' U hy ⟨told, o4, o5, o6, o7, o8, rfl, e, hP, R⟩ hU
      have hi : i < row.length := by
        have := (List.getElem?_eq_some_iff.mp hy).1
        rwa [List.length_map] at this
      rw [List.getElem?_map, List.getElem?_eq_getElem hi] at hy
      cases hy
      have fU : Fe H' (upd H' U (.tup [.int (i : Int), oV row[i]])) := Fe.new hU
      have e2 := e.trans fU
      have hP2 := fU.k hP
      refine ⟨U, _, rfl, SqT.of upd_same, rfl, _, _, rfl, _, _, rfl, rfl, ?_⟩
      have hri : row[i]? = some row[i] := List.getElem?_eq_getElem hi
      clear fU
      revert hri e2 hP2
      generalize row[i] = o
      intro e2 hP2 hri
      cases o with
      | none =>
        refine ⟨_, rfl, rfl, _, rfl, iteF ⟨told, _, _, _, _, _, rfl, e2, hP2, R.imp (fun to c ⟨h0, c0, d, h1, h2, h3⟩ => ⟨h0, c0, d, ⟨by omega, h1.2⟩, h2, h3⟩) (fun to c ⟨h0, c0, d, h1, h2, h3⟩ => ⟨c, ⟨h0, c0, d, ⟨?_, h1.2⟩, h2, h3⟩, Nat.le_refl _⟩)⟩⟩
        have : h0 ≠ i := fun z => by rw [z, hri] at h1; exact nomatch h1.2
        omega
      | some c0 =>
        refine ⟨_, rfl, rfl, _, rfl, iteT ?_⟩
        have hin : i < sts.length := by omega
        obtain ⟨d, q, ys, mv, hd, hd1, hq, hys, hal, hmv⟩ := Rw.here W.mats hkj hin
        have hd2' : ((L.map (·.1)).tail)[jj]? = some d.1 := by rw [List.getElem?_tail, List.getElem?_map, hd]; rfl
        refine ⟨_, rfl, sf, _, dx, _, _, rfl, e2.k hins, T.cl_MoveWeb, T.na_MoveWeb_reading, wfl_r, _, rfl, rd, .ref d.1, rfl, by rw [← rkvs_at sd.ok.ln hjj hd2']; exact DGet.k (k := kS [x]) (e2.k W.hr), _, rfl, d.1, _, _, .ref q, rfl, rfl, SqL.of (e2.k hd1), atI_nat (by rw [List.getElem?_map, hq]; rfl), q, rfl, ⟨_, SqL.of (e2.k hys)⟩,
          for_lst (xs := ys) (fun j σ' H' => ∃ (told : CRow) (o6 o7 o8 : Option V), σ' = [some (.ref sf), some (.ref a), some (.str ⟨#[x]⟩), some (.ref p), some (vN i), some (vN c0), o6, o7, o8] ∧ Fe H H' ∧ H' p = some (.lst (told.map oV)) ∧
            LRow sts.length (fun to c => Bh (Told b m sts (some x)) (fun h c => h < i ∧ row[h]? = some (some c)) to c ∨ ∃ d, (to, d, ()) ∈ mv.take j ∧ c = c0 + d) told)
            ⟨told, _, _, _, rfl, e2, hP2, R.imp (fun _ _ => .inl) (fun to c z => by
              rcases z with z | ⟨_, z, _⟩
              · exact ⟨c, z, Nat.le_refl _⟩
              · exact nomatch z)⟩ (fun j σ' H2 _ ⟨_, _, _, _, _, e, _⟩ => e.k hys) ?_ ?_⟩
        · clear e2 hP2 hP R e
          rintro j y σ' H3 hy ⟨told, o6, o7, o8, rfl, e, hP, R⟩
          obtain ⟨⟨to, cost, u⟩, hto, hxr⟩ := hal.get hy
          obtain ⟨ua, x1, x2, x3, rfl, hua, rfl, rfl, _⟩ := id hxr
          have hS : Told b m sts (some x) i to cost := (hmv to cost).mp (List.mem_of_getElem? hto)
          have hton := (told_lt hS).2
          obtain ⟨oo, hto1⟩ : ∃ oo, told[to]? = some oo := ⟨told[to]'(by rw [R.len]; exact hton), List.getElem?_eq_getElem (by rw [R.len]; exact hton)⟩
          have htk : mv.take (j + 1) = mv.take j ++ [(to, cost, u)] := by rw [List.take_add_one, hto]; rfl
          have hto2 : to < (told.map oV).length := by rw [List.length_map]; exact (List.getElem?_eq_some_iff.mp hto1).1
          have cong : ∀ told' : CRow, LRow sts.length (fun h c => (Bh (Told b m sts (some x)) (fun h c => h < i ∧ row[h]? = some (some c)) h c ∨ ∃ d, (h, d, ()) ∈ mv.take j ∧ c = c0 + d) ∨ (h = to ∧ c = c0 + cost)) told' →
              LRow sts.length (fun to c => Bh (Told b m sts (some x)) (fun h c => h < i ∧ row[h]? = some (some c)) to c ∨ ∃ d, (to, d, ()) ∈ mv.take (j + 1) ∧ c = c0 + d) told' := fun told' R' => by
            rw [htk]
            refine R'.imp ?_ ?_
            · rintro h c ((z | ⟨d, z1, z2⟩) | ⟨rfl, rfl⟩)
              · exact .inl z
              · exact .inr ⟨d, List.mem_append_left _ z1, z2⟩
              · exact .inr ⟨cost, List.mem_append_right _ (List.mem_singleton.mpr rfl), rfl⟩
            · rintro h c (z | ⟨d, z1, z2⟩)
              · exact ⟨c, .inl (.inl z), Nat.le_refl _⟩
              · rcases List.mem_append.mp z1 with z1 | z1
                · exact ⟨c, .inl (.inr ⟨d, z1, z2⟩), Nat.le_refl _⟩
                · have q := List.mem_singleton.mp z1
                  injection q with q1 q2
                  injection q2 with q2 _
                  subst q1 q2
                  exact ⟨c, .inr ⟨rfl, z2⟩, Nat.le_refl _⟩
          have fin : Bet oo (c0 + cost) → LRow sts.length (fun to c => Bh (Told b m sts (some x)) (fun h c => h < i ∧ row[h]? = some (some c)) to c ∨ ∃ d, (to, d, ()) ∈ mv.take (j + 1) ∧ c = c0 + d) (told.set to (some (c0 + cost))) := fun hb => cong _ (R.put hto1 hb)
          have stay : ¬ Bet oo (c0 + cost) → LRow sts.length (fun to c => Bh (Told b m sts (some x)) (fun h c => h < i ∧ row[h]? = some (some c)) to c ∨ ∃ d, (to, d, ()) ∈ mv.take (j + 1) ∧ c = c0 + d) told := fun hb => cong _ (R.keep hto1 hb)
          refine ⟨ua, _, rfl, SqT.of (e.k hua), rfl, _, _, rfl, _, _, rfl, _, _, rfl, rfl, ?_⟩
          refine ⟨_, rfl, _, rfl, p, _, _, _, rfl, rfl, SqL.of hP, atI_nat (at_oV hto1), rfl, _, rfl, ?_⟩
          have put : ∀ hb : Bet oo (c0 + cost), upd H3 p (.lst ((told.map oV).set to (vN (c0 + cost)))) p = some (.lst ((told.set to (some (c0 + cost))).map oV)) := fun _ => by rw [upd_same, set_oV]
          cases oo with
          | none =>
            refine iteT (iteT ?_)
            refine ⟨_, rfl, _, rfl, _, _, rfl, rfl, _, rfl, _, rfl, p, _, _, _, rfl, rfl, hP, ixn hto2, ?_⟩
            exact ⟨_, _, _, _, rfl, e.mut hpn, put bet_none, fin bet_none⟩
          | some e4 =>
            refine iteF ⟨_, rfl, _, rfl, _, _, rfl, rfl, _, rfl, _, rfl, p, _, _, _, rfl, rfl, SqL.of hP, atI_nat (at_oV hto1), _, _, rfl, rfl, _, rfl, ?_⟩
            by_cases hl : c0 + cost < e4
            · rw [decide_eq_true (show ((c0 : Int) + (cost : Int) < (e4 : Int)) by omega)]
              refine iteT ?_
              refine ⟨_, rfl, _, rfl, _, _, rfl, rfl, _, rfl, _, rfl, p, _, _, _, rfl, rfl, hP, ixn hto2, ?_⟩
              exact ⟨_, _, _, _, rfl, e.mut hpn, put (bet_some.mpr hl), fin (bet_some.mpr hl)⟩
            · rw [decide_eq_false (show ¬ ((c0 : Int) + (cost : Int) < (e4 : Int)) by omega)]
              exact iteF ⟨told, _, _, _, rfl, e, hP, stay fun z => hl (bet_some.mp z)⟩
        · rintro σ' H3 ⟨told, o6, o7, o8, rfl, e, hP, R⟩
          refine ⟨told, _, _, _, _, _, rfl, e, hP, ?_⟩
          rw [hal.len, List.take_length] at R
          refine R.imp ?_ ?_
          · rintro to c (⟨h0, c1, d, h1, h2, h3⟩ | ⟨d, h1, h2⟩)
            · exact ⟨h0, c1, d, ⟨by omega, h1.2⟩, h2, h3⟩
            · exact ⟨i, c0, d, ⟨by omega, hri⟩, (hmv to d).mp h1, h2⟩
          · rintro to c ⟨h0, c1, d, h1, h2, h3⟩
            refine ⟨c, ?_, Nat.le_refl _⟩
            by_cases z : h0 = i
            · subst z
              rw [hri] at h1
              cases h1.2
              exact .inr ⟨d, (hmv to d).mpr h2, h3⟩
            · exact .inl ⟨h0, c1, d, ⟨by omega, h1.2⟩, h2, h3⟩
    · rintro σ' H' ⟨told, o4, o5, o6, o7, o8, rfl, e, hP, R⟩
      refine ⟨_, rfl, sf, dx, _, rfl, e.k hins, wfl_no (by decide +kernel) (by decide +kernel) (by decide +kernel) (by decide +kernel) (by decide +kernel) (by decide +kernel), _, rfl, ?_⟩
      refine ⟨b, m, sts, sf, .ref p, told, Bh (Told b m sts (some x)) B, rfl, hw.f e, sd, ⟨p, _, rfl, hP, Al.ofOpts _⟩, nxt_congr hA ?_, fun p2 H2 row' e2 hp2 hH' hL => kk p2 H2 row' (e.trans e2) (e.free hp2) hH' hL⟩
      refine R.imp (fun to c ⟨h0, c0, d, h1, h2, h3⟩ => ⟨h0, c0, d, h1.2, h2, h3⟩) (fun to c ⟨h0, c0, d, h1, h2, h3⟩ => ⟨c, ⟨h0, c0, d, ⟨?_, h1⟩, h2, h3⟩, Nat.le_refl _⟩)
      rw [List.length_map]
      exact (List.getElem?_eq_some_iff.mp h1).1
end
end Fm
/-! set(..) of a list, by what each item's adding keeps -/
namespace Fm
open PySem PySem.Spec PyProof.Rows L2
abbrev bareSet (w : World) : Obj := { cls := .type "set", dict := none, data := .set #[] 0 (.fresh 0 0 (!w.params.followText "set-order")) }
section
variable {P : Program} {w : World} {A : Around} {s : Shared}
/-- what adding the items does to the set at S: Iv i holds behind i of them; all that h0 knew stands -/
structure Adds (P : Program) (w : World) (A : Around) (S : Addr) (h0 : Heap) (n : Nat) (Pv : Nat → Value → Prop) (Iv : Nat → Heap → Prop) : Prop where
  still : ∀ {i : Nat} {h h' : Heap}, Iv i h → (∀ o, h.get? S = some o → h'.get? S = some o) → (∀ b o, h0.get? b = some o → h'.get? b = some o) → Iv i h'
  add : ∀ {i : Nat} {v : Value} {s : Shared} {E : Value → Shared → Prop} {Q : Bool → Shared → Prop}, i < n → Pv i v → Iv i s.heap → (∀ b o, h0.get? b = some o → s.heap.get? b = some o) →
    (∀ (b : Bool) (h' : Heap) (tk : Nat), Heap.SameBut S s.heap h' → Iv (i + 1) h' → s.toks ≤ tk → Q b { s with heap := h', toks := tk }) → wpAny (model P w) A (setAdd S v) Q E s
theorem set_loop {I S : Addr} {fp wr : List Addr} {G : Array GenState → Array GenState → Prop} {n : Nat} {Pv : Nat → Value → Prop} {St : Nat → Shared → Prop} {R : Result → Shared → Prop} {h0 : Heap} {Iv : Nat → Heap → Prop}
    (W : WalksS P w A.in1 I fp wr G n Pv St) (hSf : S ∉ fp) (ad : Adds P w A.in1 S h0 n Pv Iv) (hS0 : h0.get? S = none) (hw0 : ∀ b ∈ wr, h0.get? b = none) :
    ∀ (k i : Nat) (s : Shared), i + k = n → St i s → (∀ b o, h0.get? b = some o → s.heap.get? b = some o) → Iv i s.heap →
      (∀ s', Moved (S :: wr) G s s' → Iv n s'.heap → (∀ b o, h0.get? b = some o → s'.heap.get? b = some o) → R (.ok (.ret .none)) s') →
      codeAny (model P w) A (.builtin "set.update.loop" ⟨[.ref S, .ref I], []⟩) R s := by
  have nSw : S ∉ wr := fun z => hSf (W.sub _ z)
  have wide : ∀ b ∈ wr, b ∈ S :: wr := fun b hb => List.mem_cons_of_mem _ hb
  have old : ∀ {s s' : Shared}, Moved wr G s s' → (∀ b o, h0.get? b = some o → s.heap.get? b = some o) → ∀ b o, h0.get? b = some o → s'.heap.get? b = some o := fun mv kp b o e =>
    mv.heap b o (fun z => by have := hw0 b z; rw [e] at this; cases this) (kp b o e)
  intro k
  induction k with
  | zero =>
    intro i s hik hst hkp hI hR
    have e : i = n := by omega
    subst e
    refine codeAny_builtin F.entry_set_update_loop ?_
    rw [Around.under_plainId F.plain_set_update_loop _]
    show wpAny (model P w) A.in1 (pyNext (.ref I) >>= _) _ _ s
    refine wpAny_bind (W.done s _ _ hst fun s' mv => ?_)
    show wpAny (model P w) A.in1 (ret Value.none) _ _ s'
    exact wpAny_pure (hR s' (mv.mono wide) (ad.still hI (fun o e => mv.heap S o nSw e) (old mv hkp)) (old mv hkp))
  | succ k ih =>
    intro i s hik hst hkp hI hR
    refine codeAny_builtin F.entry_set_update_loop ?_
    rw [Around.under_plainId F.plain_set_update_loop _]
    show wpAny (model P w) A.in1 (pyNext (.ref I) >>= _) _ _ s
    refine wpAny_bind (W.item i s _ _ (by omega) hst fun v s' hP hst' mv => ?_)
    show wpAny (model P w) A.in1 (holding [v] (setAdd S v) >>= _) _ _ s'
    refine wpAny_bind (wpAny_holding (ad.add (by omega) hP (ad.still hI (fun o e => mv.heap S o nSw e) (old mv hkp)) (old mv hkp) fun b h' tk sb hI2 htk => ?_))
    have kp2 : ∀ b o, h0.get? b = some o → h'.get? b = some o := fun b o e => (sb.2 b fun z => by rw [z, hS0] at e; cases e).trans (old mv hkp b o e)
    refine wpAny_pure ⟨plainId_quiet F.plain_set_update_loop _, ih (i + 1) _ (by omega) (W.frame _ s' _ _ hst' htk fun b hb o e => (sb.2 b fun z => hSf (z ▸ hb)).trans e) kp2 hI2 fun s2 mv2 hI3 kp3 => ?_⟩
    exact hR s2 (Moved.trans W.gtrans ((mv.mono wide).then_heap htk fun b o hb e => (sb.2 b fun z => hb (by rw [z]; exact List.mem_cons_self)).trans e) mv2) hI3 kp3
theorem none_over {h : Heap} {b : Addr} (hb : h.objs.size ≤ b) : h.get? b = none := by
  cases q : h.get? b with
  | none => rfl
  | some o => exact absurd (Nat.lt_of_lt_of_le (Heap.lt_size q) hb) (Nat.lt_irrefl _)
set_option maxHeartbeats 6400000 in
/-- set(xs), xs a list -/
theorem call_set_gen {E : Value → Shared → Prop} {l : Addr} {items : Array Value} {Iv : Nat → Heap → Prop} {Q : Value → Shared → Prop} (hh : A.handled = none) (hl : s.heap.IsList l items)
    (ad : ∀ A' : Around, A'.units ≤ A.units + 3 → A'.handled = none → Adds P w A' s.heap.objs.size s.heap items.size (fun i v => items[i]? = some v) Iv)
    (h0 : ∀ h : Heap, h.get? s.heap.objs.size = some (bareSet w) → (∀ b o, s.heap.get? b = some o → h.get? b = some o) → Iv 0 h)
    (hQ : ∀ (h' : Heap) (tk : Nat), Iv items.size h' → (∀ b o, s.heap.get? b = some o → h'.get? b = some o) → Q (.ref s.heap.objs.size) { s with heap := h', toks := tk }) :
    wpAny (model P w) A (call (.type "set") [.ref l]) Q E s := by
  obtain ⟨c, tl, hmro⟩ := F.called_set.mro
  have hmade := F.called_set.made
  have hsub := F.called_set.sub
  refine wpAny_call (codeAny_of_tree ?_)
  show wpAny _ _ (callAny (.type "set") _) _ _ _
  refine wpAny_pure ⟨Code.quiet_builtin _ (by decide +kernel), codeAny_builtin F.entry_type_call ?_⟩
  rw [Around.under_plain (weight_type_call_type "set" [.ref l] []) rfl]
  have h1 := F.called_set.notType
  have h2 := F.called_set.canCreate
  have hct := F.typeCall_set_1 (.ref l)
  repeat (any_goals (first | assumption | wp_step))
  refine codeAny_mono (code_set_led1 (.ref l) (E := E) (Q₁ := fun z s₁ => z = .ref s.heap.objs.size ∧ s₁ = { s with heap := s.heap.push (bareSet w) }) ⟨rfl, rfl⟩) fun r s₁ hr => ?_
  cases r with
  | error e => exact hr
  | ok fl =>
    cases fl with
    | ret z =>
      obtain ⟨rfl, rfl⟩ := hr
      have hS : (s.heap.push (bareSet w)).get? s.heap.objs.size = some (bareSet w) := Heap.get?_push_size _ rfl
      have hT : Shared.TypeIs { s with heap := s.heap.push (bareSet w) } (.ref s.heap.objs.size) "set" := ⟨_, hS, rfl⟩
      have hli := F.called_set.init.lookup
      have hbi := F.called_set.init.bind (.ref s.heap.objs.size)
      repeat (any_goals (first | assumption | wp_step))
      refine codeAny_mono (codeAny_call_builtin (R := wants (fun r s₂ => r = .none ∧ ∃ h' tk, s₂ = { s with heap := h', toks := tk } ∧ Iv items.size h' ∧ (∀ b o, s.heap.get? b = some o → h'.get? b = some o)) E) F.called_set.init.plain F.entry_set_init (check_set_init_1 hT ?_)) fun r₂ s₂ hr₂ => ?_
      · obtain ⟨ol, hol, hcl, nl, hdl⟩ := hl
        obtain ⟨ocls, odict, odata, oslots⟩ := ol
        simp only at hcl hdl
        subst hcl; subst hdl
        have hol' : (s.heap.push (bareSet w)).get? l = some { cls := .type "list", dict := odict, data := .seq items nl, slots := oslots } := Heap.get?_push_of_some _ hol
        have hsls := F.sub_list_set
        have hslf := F.sub_list_frozenset
        have hne : (Value.type "list" == Value.type "dict") = false := by decide
        have hl1 : (s.heap.push (bareSet w)).IsList l items := ⟨_, hol', rfl, nl, rfl⟩
        unfold Builtin.«set.__init__» noKeywords Builtin.Frozenset.updateFrom
        generalize hPI : pyIter = PI
        wp_walk
        subst hPI
        refine wpAny_pyIter_list hl1 ?_
        refine wpAny_bind (wpAny_runValue ?_)
        have hlS : l < s.heap.objs.size := Heap.lt_size hol
        have hh3 : A.in1.in1.in1.handled = none := by simp [hh]
        have hz : (s.heap.push (bareSet w)).objs.size = s.heap.objs.size + 1 := Heap.size_push ..
        refine set_loop ((Walks.list hh3 _ l (by rw [hz]; exact Nat.ne_of_lt (Nat.lt_succ_of_lt hlS)) items).toS) ?_ (ad _ ?_ hh3) (none_over (Nat.le_refl _)) (fun b hb => none_over (by
            rw [List.mem_singleton.mp hb, hz]
            exact Nat.le_succ _)) items.size 0 _ (by omega) ⟨⟨_, Heap.get?_push_size _ rfl, rfl, rfl⟩, (hl1.push _)⟩ (fun b o e => Heap.get?_push_of_some _ (Heap.get?_push_of_some _ e)) (h0 _ (Heap.get?_push_of_some _ hS) fun b o e => Heap.get?_push_of_some _ (Heap.get?_push_of_some _ e)) ?_
        · rw [hz]; simp only [List.mem_cons, List.mem_singleton, List.not_mem_nil, or_false, not_or]
          exact ⟨Nat.ne_of_lt (Nat.lt_succ_self _), Nat.ne_of_gt hlS⟩
        · exact Nat.le_refl _
        · intro s' mv hI kp
          obtain ⟨h', g2, d', tk', os'⟩ := s'
          have eg : g2 = s.gens := mv.gens
          have ed : d' = s.drawn := mv.drawn
          have eo : os' = s.os := mv.os
          subst eg; subst ed; subst eo
          show wpAny _ _ _ _ _ _
          refine wpAny_pure ?_
          show wpAny _ _ (ret Value.none) _ _ _
          exact wpAny_pure ⟨rfl, h', tk', rfl, hI, kp⟩
      · cases r₂ with
        | error e => exact hr₂
        | ok fl₂ =>
          cases fl₂ with
          | ret r =>
            obtain ⟨rfl, h', tk, rfl, hI, kp⟩ := hr₂
            repeat (any_goals (first | assumption | wp_step))
            exact hQ _ _ hI kp
          | _ => exact hr₂.elim
    | _ => exact hr.elim
end
end Fm
/-! sets of ints, of tuples of ints and texts -/
namespace Fm
open PySem PySem.Spec PyProof.Rows L2
/-! ### sets of ints -/
section
variable {P : Program} {w : World} {A : Around} {s : Shared}
theorem setR_bare {h : Heap} {a : Addr} (e : h.get? a = some (bareSet w)) : SetR w h a (fun _ => false) 0 :=
  ⟨_, #[], 0, _, e, ⟨rfl, rfl, rfl⟩, rfl, fun x hx => (by cases hx), List.nodup_nil, fun k => ⟨fun z => (by cases z), fun z => (by cases z)⟩, by decide, rfl, rfl, List.Pairwise.nil, by
    show _ ∨ (!w.params.followText "set-order") = true
    cases w.params.followText "set-order"
    · exact .inr rfl
    · exact .inl rfl⟩
theorem adds_ints {S : Addr} {h0 : Heap} {items : Array Value} {ns : List Int} (hit : ∀ (i : Nat) (v : Value), items[i]? = some v → ∃ k tk, v = Value.int k tk ∧ ns[i]? = some k) (hfew : items.size < 1000) :
    Adds P w A S h0 items.size (fun i v => items[i]? = some v) fun i h => ∃ n, n ≤ i ∧ SetR w h S (fun j => decide (j ∈ ns.take i)) n where
  still := fun ⟨n, hn, R⟩ k _ => ⟨n, hn, R.at k⟩
  add := by
    intro i v s E Q hi hv hI kp hQ
    obtain ⟨n, hn, R⟩ := hI
    obtain ⟨k, tk, rfl, hk⟩ := hit i v hv
    unfold setAdd
    refine wpAny_holding ?_
    refine wpAny_bind ((intKind P w).pyHash (intKind_is P w k tk) ?_)
    refine setR_add_hashed (s := { s with toks := s.toks + 1 }) R (by unfold scanBound; omega) fun h' sb R' => ?_
    refine hQ _ h' _ sb ⟨_, ?_, R'.congr fun j => ?_⟩ (Nat.le_succ _)
    · split <;> omega
    · rw [List.take_add_one, hk, Bool.eq_iff_iff]
      simp
end
section
variable {X : Cx} {K : PySem.W.Frag} {w : World}
/-- set(xs), xs a list of ints -/
def rSetI (K : PySem.W.Frag) (w : World) : List V → Hp → VK → Prop := fun xs H Q => ∃ (l : Addr) (ns : List Int), xs = [V.ref l] ∧ SqL K H l (ns.map V.int) ∧ ns.length < 64 ∧
  ∀ (a : Addr) (n : Nat), H a = none → n ≤ ns.length → Q (.ref a) (upd H a (SetO w a (fun j => decide (j ∈ ns)) n))
theorem kc_setI (h : X.K = K) (hw : X.w = w) (hc : X.calm = true) : CallR X (.type "set") (rSetI K w) := by
  subst h hw
  intro pins s σ H xs us Q I r h
  obtain ⟨l, ns, rfl, hl, hf, q⟩ := h
  rw [Vals.ref1 r]
  obtain ⟨its, rv, pl, hz⟩ := I.list hl
  have hsz : its.toArray.size = ns.length := by rw [List.size_toArray, ← rv.length, List.length_map]
  have hn : H s.heap.objs.size = none := I.hok.fresh (Nat.le_refl _)
  have hit : ∀ (i : Nat) (v : Value), its.toArray[i]? = some v → ∃ k tk, v = Value.int k tk ∧ ns[i]? = some k := fun i v e => by
    rw [List.getElem?_toArray] at e
    clear hsz hz pl hl q hn hf
    generalize hm : ns.map V.int = ms at rv
    induction rv generalizing ns i with
    | nil => cases e
    | cons h1 _ ih =>
      cases ns with
      | nil => cases hm
      | cons n ns =>
        rw [List.map_cons] at hm
        injection hm with h2 h3
        subst h2
        cases i with
        | zero =>
          cases e
          obtain ⟨t, ht⟩ := h1
          exact ⟨n, t, ht, rfl⟩
        | succ i => exact ih _ i e h3
  refine call_set_gen (w := X.w) (Iv := fun i h => ∃ n, n ≤ i ∧ SetR X.w h s.heap.objs.size (fun j => decide (j ∈ ns.take i)) n) (I.ok.hd hc) pl.isList (fun A' _ _ => adds_ints hit (by omega)) (fun h e _ => ⟨0, Nat.le_refl _, setR_bare e⟩) fun h' tk ⟨n, hn2, R⟩ kp => ?_
  rw [hsz, List.take_length] at R
  exact ⟨.ref s.heap.objs.size, _, I.laid (t' := tk) kp (Nat.le_refl _) (setO_new R), rfl, q _ n hn (by omega)⟩
theorem kc_sortedSet (hw : X.w = w) (hc : X.calm = true) : CallR X (.builtin "sorted") (rSortedSet w) := by subst hw; exact cr_sortedSet hc
end
end Fm
/-! sets of tuples of ints and texts: what is in such a set came from the list -/
namespace Fm
open PySem PySem.Spec PyProof.Rows L2
abbrev thM (P : Program) (w : World) (k : List Key) : Int := tupleKeyHash (mixKind P w) k
abbrev IsM (P : Program) (w : World) (h : Heap) (k : List Key) (a : Addr) : Prop := IsTupleKey (mixKind P w) h k a
abbrev TL := List (Addr × List Key)
def rowM (P : Program) (w : World) (L : TL) : List (Int × Value) := L.map fun p => (thM P w p.2, Value.ref p.1)
structure SetM (P : Program) (w : World) (h : Heap) (a : Addr) (L : TL) (es : Array (Int × Value)) (ep : Nat) (t : SetTable) : Prop where
  ob : ∃ o, h.get? a = some o ∧ o.ExactSet ∧ o.data = .set es ep t
  rows : es.toList = rowM P w L
  tab : TabOk t (L.map fun p => thM P w p.2)
  tup : ∀ p ∈ L, IsM P w h p.2 p.1
  led : w.params.followText "set-order" = true ∨ t.led = true
  room : L.length * 5 < t.mask * 3
  few : L.length < 64
section
variable {P : Program} {w : World} {A : Around} {E : Value → Shared → Prop} {s : Shared}
theorem itemM {k : List Key} {vs : List Value} (h : ItemsAre (mixKind P w) k vs) : ∀ v ∈ vs, (∃ i t, v = Value.int i t) ∨ ∃ x t, v = Value.str x t := by
  induction h with
  | nil => intro v hv; cases hv
  | cons h1 _ ih =>
    intro v hv
    rcases List.mem_cons.mp hv with e | hv
    · rcases keyIs_shape h1 with ⟨i, t, _, e2⟩ | ⟨x, t, _, e2⟩
      · exact .inl ⟨i, t, e.trans e2⟩
      · exact .inr ⟨x, t, e.trans e2⟩
    · exact ih v hv
theorem classM {k : List Key} {b : Addr} {Q : Bool → Shared → Prop} (hk : IsM P w s.heap k b) (h : Q false s) : wpAny (model P w) A (ofAClassStatement 8 (.ref b)) Q E s := by
  have hT := hk.typeIs
  obtain ⟨o, items, n, ho, _, hd, hi⟩ := hk
  unfold ofAClassStatement
  refine wpAny_bind (wpAny_typeOf hT ?_)
  dsimp only
  have e : (("tuple" : String) == "tuple") = true := by decide
  simp only [e, if_true, Bool.not_true, Bool.false_eq_true, if_false]
  try refine wpAny_bind (wpAny_pure ?_)
  try simp only [Bool.not_true, Bool.false_eq_true, if_false]
  show wpAny _ _ (seqItems? (.ref b) >>= _) _ _ s
  refine wpAny_bind (wpAny_seqItems ho hd ?_)
  dsimp only
  refine wpAny_bind ?_
  show wpAny _ _ (forIn items _ _) _ _ s
  rw [← Array.forIn_toList]
  refine wpAny_forIn_list _ (fun rest r s' => r.1 = none ∧ s' = s ∧ ∀ v ∈ rest, (∃ i t, v = Value.int i t) ∨ ∃ x t, v = Value.str x t) _ ?_ ?_ _ _ ⟨rfl, rfl, itemM hi⟩
  · rintro v rest r s' ⟨hr, rfl, hall⟩
    have e1 : ofAClassStatement 7 v = pure false := by
      rcases hall v List.mem_cons_self with ⟨i, t, rfl⟩ | ⟨x, t, rfl⟩ <;> rfl
    rw [e1]
    refine wpAny_bind (wpAny_pure ?_)
    simp only [Bool.false_eq_true, if_false]
    exact wpAny_pure ⟨rfl, rfl, fun u hu => hall u (List.mem_cons_of_mem _ hu)⟩
  · rintro ⟨r1, r2⟩ s' ⟨hr, rfl, _⟩
    simp only at hr
    subst hr
    exact wpAny_pure h
theorem hashM {k : List Key} {b : Addr} {Q : Bool → Shared → Prop} (hk : IsM P w s.heap k b) (h : ∀ c, Q c s) : wpAny (model P w) A (hashByValue 8 (.ref b)) Q E s := by
  have hT := hk.typeIs
  obtain ⟨o, items, n, ho, _, hd, hi⟩ := hk
  unfold hashByValue
  refine wpAny_bind (wpAny_specialOf hT F.slot_tuple_hash.lookup ?_)
  show wpAny _ _ (seqItems? (.ref b) >>= _) _ _ s
  refine wpAny_bind (wpAny_seqItems ho hd ?_)
  refine wpAny_bind ?_
  show wpAny _ _ (forIn items _ _) _ _ s
  rw [← Array.forIn_toList]
  refine wpAny_forIn_list _ (fun rest r s' => r.1 = none ∧ s' = s ∧ ∀ v ∈ rest, (∃ i t, v = Value.int i t) ∨ ∃ x t, v = Value.str x t) _ ?_ ?_ _ _ ⟨rfl, rfl, itemM hi⟩
  · rintro v rest r s' ⟨hr, rfl, hall⟩
    rcases hall v List.mem_cons_self with ⟨i, t, rfl⟩ | ⟨x, t, rfl⟩
    · rw [show hashByValue 7 (.int i t) = pure true from rfl]
      refine wpAny_bind (wpAny_pure ?_)
      simp only [Bool.not_true, Bool.false_eq_true, if_false]
      exact wpAny_pure ⟨rfl, rfl, fun u hu => hall u (List.mem_cons_of_mem _ hu)⟩
    · rw [show hashByValue 7 (.str x t) = pure false from rfl]
      refine wpAny_bind (wpAny_pure ?_)
      simp only [Bool.not_false, if_true]
      exact wpAny_pure (wpAny_pure (h false))
  · rintro ⟨r1, r2⟩ s' ⟨hr, rfl, _⟩
    simp only at hr
    subst hr
    exact wpAny_pure (h true)
theorem seenM {k : List Key} {b : Addr} {Q : Bool → Shared → Prop} (hk : IsM P w s.heap k b) {ys : List Value} (hy : ∀ y ∈ ys, ∃ k' c, y = Value.ref c ∧ IsM P w s.heap k' c) (h : Q false s) :
    wpAny (model P w) A (searchCouldBeSeen (.ref b) ys) Q E s := by
  unfold searchCouldBeSeen
  refine wpAny_bind ?_
  refine wpAny_forIn_list _ (fun rest r s' => r.1 = none ∧ s' = s ∧ ∀ y ∈ rest, ∃ k' c, y = Value.ref c ∧ IsM P w s.heap k' c) _ ?_ ?_ _ _ ⟨rfl, rfl, hy⟩
  · rintro v rest r s' ⟨hr, rfl, hall⟩
    obtain ⟨k', c, rfl, hc⟩ := hall v List.mem_cons_self
    have more : ∀ y ∈ rest, ∃ k' c, y = Value.ref c ∧ IsM P w s'.heap k' c := fun u hu => hall u (List.mem_cons_of_mem _ hu)
    dsimp only
    by_cases hv : (b == c || (carriedByValue (.ref b) && carriedByValue (.ref c))) = true
    · exact wp_if_pos hv (wpAny_pure ⟨rfl, rfl, more⟩)
    · refine wp_if_neg hv ?_
      refine wpAny_bind (wpAny_eqIsQuiet_tuple hk ?_)
      simp only [Bool.not_true, Bool.false_eq_true, if_false]
      refine wpAny_bind (wpAny_eqIsQuiet_tuple hc ?_)
      simp only [Bool.not_true, Bool.false_eq_true, if_false]
      refine wpAny_bind (classM hk ?_)
      simp only [Bool.false_eq_true, if_false]
      refine wpAny_bind (classM hc ?_)
      simp only [Bool.false_eq_true, if_false]
      exact wpAny_pure ⟨rfl, rfl, more⟩
  · rintro ⟨r1, r2⟩ s' ⟨hr, rfl, _⟩
    simp only at hr
    subst hr
    exact wpAny_pure h
variable {a : Addr} {L : TL} {es : Array (Int × Value)} {ep : Nat} {t : SetTable} {h h' : Heap}
theorem rowM_size (e : es.toList = rowM P w L) : es.size = L.length := by
  have := congrArg List.length e
  unfold rowM at this
  rwa [Array.length_toList, List.length_map] at this
theorem SetM.fits (R : SetM P w h a L es ep t) : t.fits es.size = true := by
  have h1 := R.tab.sz
  rw [List.length_map] at h1
  have h2 := rowM_size R.rows
  have h3 := R.room
  unfold SetTable.fits SetTable.fill
  rw [R.tab.dm, Bool.and_eq_true, beq_iff_eq, decide_eq_true_eq]
  show t.place.size = es.size ∧ t.place.size + 0 ≤ t.mask
  omega
theorem rowM_at (e : es.toList = rowM P w L) {i : Nat} {p : Addr × List Key} (q : L[i]? = some p) : es[i]? = some (thM P w p.2, Value.ref p.1) := by
  rw [← Array.getElem?_toList, e]
  unfold rowM
  rw [List.getElem?_map, q]
  rfl
theorem stepM (t : SetTable) (hsh : Int) (c : Nat) : (nth t.mask (runAt t.mask (SetTable.bits hsh % (t.mask + 1)) (SetTable.bits hsh)) c).dummy = none := by
  have key : ∀ (n : Nat) (p : SetTable.Probe), p.dummy = none → (nth t.mask p n).dummy = none := by
    intro n
    induction n with
    | zero => exact fun _ h => h
    | succ n ih =>
      intro p h
      refine ih (adv t.mask p) ?_
      unfold adv
      split <;> exact h
  exact key c _ rfl
/-- a search ends: it finds an equal one, or the first free slot of the way -/
theorem SetM.find (R : SetM P w s.heap a L es ep t) {x : Addr} {k : List Key} (hx : IsM P w s.heap k x) (hu : A.units < cLine) {Z : Nat} (hZf : Z < 10 * SetTable.turns t.mask)
    (hZ : way t.mask (thM P w k) Z ∉ t.place.toList) (hZb : ∀ c, c < Z → way t.mask (thM P w k) c ∈ t.place.toList) {Q : SetFound → Shared → Prop}
    (hin : Q (.there none) s) (hout : Q (.free (way t.mask (thM P w k) Z) false) s) :
    ∀ (f c : Nat) (stand : Option SetTable.Probe), stand.getD (t.probeStart (thM P w k)) = nth t.mask (runAt t.mask (SetTable.bits (thM P w k) % (t.mask + 1)) (SetTable.bits (thM P w k))) c → c ≤ Z → Z - c < f →
      wpAny (model P w) A (setSearchFrom a (.ref x) (thM P w k) true f stand) Q E s := by
  obtain ⟨o, ho, hex, hd⟩ := R.ob
  intro f
  induction f with
  | zero => intro c stand _ _ hf; exact absurd hf (Nat.not_lt_zero _)
  | succ f ih =>
    intro c stand hst hc hf
    rw [setSearchFrom_succ]
    refine wpAny_bind (wpAny_setState_of ho hd R.fits ?_)
    dsimp only
    have gw : ¬ t.gaveWay = true := by
      unfold SetTable.gaveWay
      rw [mask_odd R.tab.mok]
      decide
    refine wp_if_neg gw ?_
    try refine wpAny_bind (wpAny_pure ?_)
    generalize hr0 : runAt t.mask (SetTable.bits (thM P w k) % (t.mask + 1)) (SetTable.bits (thM P w k)) = r0 at hst
    have wy : ∀ q, way t.mask (thM P w k) q = (nth t.mask r0 q).j := fun q => by rw [← hr0]
    have sh : ∀ q, nth t.mask (nth t.mask r0 c) q = nth t.mask r0 (c + q) := fun q => (nth_add t.mask c _ q).symm
    have e1 : ∀ q, (nth t.mask (nth t.mask r0 c) q).j = way t.mask (thM P w k) (c + q) := fun q => by rw [sh, wy]
    have spec := go_spec t R.tab.ris R.tab.dm (fun i => (es[i]?.map (·.1)).getD 0) (thM P w k) (10 * SetTable.turns t.mask) (Z - c) (nth t.mask r0 c) (by rw [← hr0]; exact stepM t _ c) (by omega)
      (fun q hq => by rw [e1]; exact hZb (c + q) (by omega)) (by rw [e1, show c + (Z - c) = Z by omega]; exact hZ)
    rcases spec with ⟨q, i, hq, hi, _, _, hpr⟩ | ⟨_, hpr⟩
    · have hpr' : t.probe (fun i => (es[i]?.map (·.1)).getD 0) (thM P w k) (stand.getD (t.probeStart (thM P w k))) = some (.candidate (way t.mask (thM P w k) (c + q)) i (nth t.mask r0 (c + (q + 1)))) := by
        rw [hst, ← e1, ← sh]
        exact hpr
      rw [hpr']
      dsimp only
      rw [e1] at hi
      have hil : i < L.length := by
        have h1 := (List.getElem?_eq_some_iff.mp hi).1
        have h2 := R.tab.sz
        rw [List.length_map] at h2
        rw [Array.length_toList] at h1
        omega
      obtain ⟨p, hp⟩ : ∃ p, L[i]? = some p := ⟨L[i], List.getElem?_eq_getElem hil⟩
      have hpt := R.tup p (List.mem_of_getElem? hp)
      have go : wpAny (model P w) A (searchRest a (.ref x) (thM P w k) true f es t (way t.mask (thM P w k) (c + q)) i (nth t.mask r0 (c + (q + 1)))) Q E s := by
        unfold searchRest
        rw [rowM_at R.rows hp]
        dsimp only
        refine wpAny_bind (wpAny_holding (wpAny_eqBool_tuple hu hpt hx ?_))
        refine wpAny_bind (wpAny_setState_of ho hd R.fits ?_)
        dsimp only
        by_cases hkk : p.2 = k
        · exact wp_if_pos (by simp [hkk]) (wpAny_pure hin)
        · refine wp_if_neg (by simp [hkk]) ?_
          try refine wpAny_bind (wpAny_pure ?_)
          rw [sameMem]
          dsimp only
          have hsl : t.slot (way t.mask (thM P w k) (c + q)) = .live i := slot_live R.tab.ris hi
          simp only [if_true, hsl, rowM_at R.rows hp]
          refine wpAny_bind (wpAny_isSame_ref_self (wpAny_bind (wpAny_pure ?_)))
          simp only [if_true]
          refine wp_if_neg (by simp [hkk]) ?_
          exact ih (c + (q + 1)) _ (by rw [hr0]; rfl) (by omega) (by omega)
      by_cases hl : t.led = true
      · refine wp_if_neg (by simp [hl]) ?_
        try refine wpAny_bind (wpAny_pure ?_)
        exact go
      · refine wp_if_pos (by simp [hl]) ?_
        refine wpAny_bind (seenM hx (fun y hy => ?_) ?_)
        · obtain ⟨e, he, ee⟩ := List.mem_map.mp hy
          have he1 : e ∈ es ∧ e.1 = thM P w k := by simpa using he
          have he2 : e ∈ es.toList := by simpa using he1.1
          rw [R.rows] at he2
          obtain ⟨p2, hp2, e2⟩ := List.mem_map.mp he2
          exact ⟨p2.2, p2.1, by rw [← ee, ← e2], R.tup p2 hp2⟩
        · refine wp_if_neg (by decide) ?_
          try refine wpAny_bind (wpAny_pure ?_)
          exact go
    · have hpr' : t.probe (fun i => (es[i]?.map (·.1)).getD 0) (thM P w k) (stand.getD (t.probeStart (thM P w k))) = some (.empty (way t.mask (thM P w k) Z) none) := by
        have e2 : way t.mask (thM P w k) Z = (nth t.mask (nth t.mask r0 c) (Z - c)).j := by rw [e1, show c + (Z - c) = Z by omega]
        rw [hst, e2]
        exact hpr
      rw [hpr']
      dsimp only
      exact wpAny_pure hout
theorem SetM.search (R : SetM P w s.heap a L es ep t) {x : Addr} {k : List Key} (hx : IsM P w s.heap k x) (hu : A.units < cLine) {Q : SetFound → Shared → Prop} (hin : Q (.there none) s)
    (hout : ∀ Z, way t.mask (thM P w k) Z ∉ t.place.toList → (∀ c, c < Z → way t.mask (thM P w k) c ∈ t.place.toList) → Q (.free (way t.mask (thM P w k) Z) false) s) :
    wpAny (model P w) A (setSearch a (.ref x) (thM P w k) true) Q E s := by
  have hroom := R.room
  obtain ⟨Z, hZf, hZ, hZb⟩ := R.tab.first (by rw [List.length_map]; omega) (thM P w k)
  have small : 10 * SetTable.turns t.mask ≤ 1420 := by
    unfold SetTable.turns
    rcases R.tab.mok with e | e | e <;> omega
  unfold setSearch
  exact R.find hx hu hZf hZ hZb hin (hout Z hZ hZb) 100000 0 none rfl (Nat.zero_le _) (by omega)
end
end Fm
namespace Fm
open PySem PySem.Spec PyProof.Rows L2
section
variable {P : Program} {w : World} {A : Around} {E : Value → Shared → Prop} {s : Shared} {a : Addr} {L : TL} {es : Array (Int × Value)} {ep : Nat} {t : SetTable}
theorem isM_same {h h' : Heap} {k : List Key} {b : Addr} {o : Obj} (hb : IsM P w h k b) (ho : h.get? a = some o) (hd : o.data = .set es ep t) (sb : Heap.SameBut a h h') : IsM P w h' k b := by
  obtain ⟨o', items, n, ho', hc, hd', hi⟩ := hb
  refine ⟨o', items, n, (sb.2 b fun z => ?_).trans ho', hc, hd', hi⟩
  subst z
  rw [ho] at ho'
  cases ho'
  rw [hd] at hd'
  cases hd'
theorem isM_keep {h h' : Heap} {k : List Key} {b : Addr} (x : IsM P w h k b) (hk : ∀ c o, h.get? c = some o → h'.get? c = some o) : IsM P w h' k b := by
  obtain ⟨o, items, n, ho, r⟩ := x
  exact ⟨o, items, n, hk b o ho, r⟩
/-- rows taken in another order -/
theorem rowM_order (e : es.toList = rowM P w L) (order : List Nat) (hp : order.Perm (List.range L.length)) :
    ∃ L2, order.filterMap (fun i => es[i]?) = rowM P w L2 ∧ L2.Perm L ∧ (L2.map fun p => thM P w p.2) = order.map fun i => (es.map (·.1)).getD i 0 := by
  have one : ∀ l : List Nat, (∀ i ∈ l, i < L.length) → l.filterMap (fun i => es[i]?) = rowM P w (l.filterMap fun i => L[i]?) ∧ ((l.filterMap fun i => L[i]?).map fun p => thM P w p.2) = l.map fun i => (es.map (·.1)).getD i 0 := by
    intro l
    induction l with
    | nil => intro _; exact ⟨rfl, rfl⟩
    | cons i l ih =>
      intro hl
      have hi := hl i List.mem_cons_self
      have hL : L[i]? = some L[i] := List.getElem?_eq_getElem hi
      have hE := rowM_at e hL
      obtain ⟨e1, e2⟩ := ih fun j hj => hl j (List.mem_cons_of_mem _ hj)
      have hg : (es.map (·.1)).getD i 0 = thM P w (L[i]).2 := by
        have q : (es.map (·.1))[i]? = some (thM P w (L[i]).2) := by rw [Array.getElem?_map, hE]; rfl
        simp [Array.getD_eq_getD_getElem?, q]
      constructor
      · rw [List.filterMap_cons_some hE, List.filterMap_cons_some hL, e1]; rfl
      · rw [List.filterMap_cons_some hL, List.map_cons, List.map_cons, e2, hg]
  obtain ⟨e1, e2⟩ := one order fun i hi => List.mem_range.mp (hp.mem_iff.mp hi)
  refine ⟨_, e1, ?_, e2⟩
  have all : ∀ n, n ≤ L.length → (List.range n).filterMap (fun i => L[i]?) = L.take n := by
    intro n
    induction n with
    | zero => intro _; rfl
    | succ n ih =>
      intro hn
      rw [List.range_succ, List.filterMap_append, ih (by omega), List.take_add_one, List.getElem?_eq_getElem (show n < L.length by omega), List.filterMap_cons_some (List.getElem?_eq_getElem (show n < L.length by omega))]
      rfl
  have := hp.filterMap fun i => L[i]?
  rw [all L.length (Nat.le_refl _), List.take_length] at this
  exact this
/-- laid anew in a larger table -/
theorem relayM {o : Obj} (ho : s.heap.get? a = some o) (hex : o.ExactSet) (hd : o.data = .set es ep t) (hrows : es.toList = rowM P w L) (hsz : t.place.size = es.size) (hdm : t.dummies = #[]) (hfl : es.size ≤ t.mask)
    (tup : ∀ p ∈ L, IsM P w s.heap p.2 p.1) (ld : w.params.followText "set-order" = true ∨ t.led = true) (few : L.length < 64) {wanted M : Nat}
    (hw : SetTable.sizeAbove wanted - 1 = M) (hM : MaskOk M) (hw2 : SetTable.sizeAbove wanted ≤ 128) (hn : L.length * 5 < M * 3) {Q : Unit → Shared → Prop}
    (hQ : ∀ h' L' es' ep' t', Heap.SameBut a s.heap h' → SetM P w h' a L' es' ep' t' → L'.Perm L → Q () { s with heap := h' }) : wpAny (model P w) A (setRelay a wanted) Q E s := by
  have hsl := rowM_size hrows
  have hfits : t.fits es.size = true := by
    unfold SetTable.fits SetTable.fill
    rw [hdm, Bool.and_eq_true, beq_iff_eq, decide_eq_true_eq]
    show t.place.size = es.size ∧ t.place.size + 0 ≤ t.mask
    omega
  obtain ⟨t', order, e, hp, T, em, el, _, _⟩ := relaid_ok t (hs := es.map (·.1)) (wanted := wanted) hw hM (by rw [Array.size_map, hsl]; omega)
  rw [Array.size_map, hsl] at hp
  obtain ⟨L2, r1, r2, r3⟩ := rowM_order hrows order.toList hp
  rw [← r3] at T
  have r1' : (order.filterMap (es[·]?)).toList = rowM P w L2 := by first | (rw [Array.toList_filterMap]; exact r1) | simpa using r1
  have hs2 : (order.filterMap (es[·]?)).size = es.size := by rw [rowM_size r1', r2.length_eq, hsl]
  rw [setRelay_eq]
  refine wpAny_bind (wpAny_setState_of ho hd hfits ?_)
  dsimp only
  refine wp_if_neg (by rw [sizeLine_eq]; omega) ?_
  try refine wpAny_bind (wpAny_pure ?_)
  rw [e]
  dsimp only
  refine wpAny_bind ?_
  refine wp_if_neg (by rw [hs2]; simp) ?_
  try refine wpAny_bind (wpAny_pure ?_)
  refine wpAny_pure ?_
  dsimp only
  refine wpAny_storeSet_of ho hd ?_ (by rw [hs2, hsl, sizeLine_eq]; omega)
  have sb : Heap.SameBut a s.heap (s.heap.update a (Obj.putSet (order.filterMap (es[·]?)) t')) := Heap.SameBut.update ..
  exact hQ _ L2 _ (ep + 1) t' sb ⟨⟨_, store_at ho hd, ⟨hex.1, hex.2.1, hex.2.2⟩, rfl⟩, r1', T, fun p hpm => isM_same (tup p (r2.mem_iff.mp hpm)) ho hd sb, by rw [el]; exact ld, by rw [r2.length_eq, em]; exact hn, by rw [r2.length_eq]; exact few⟩ r2
/-- adding one -/
theorem SetM.add (R : SetM P w s.heap a L es ep t) {x : Addr} {k : List Key} (hx : IsM P w s.heap k x) (hu : A.units < cLine) (hfew : L.length + 1 < 64) {Q : Bool → Shared → Prop}
    (hQ : ∀ b h' L' es' ep' t', Heap.SameBut a s.heap h' → SetM P w h' a L' es' ep' t' → (∀ p ∈ L', p = (x, k) ∨ p ∈ L) → L'.length ≤ L.length + 1 → Q b { s with heap := h' }) :
    wpAny (model P w) A (setAddHashed a (.ref x) (thM P w k)) Q E s := by
  obtain ⟨o, ho, hex, hd⟩ := R.ob
  have hsl := rowM_size R.rows
  have hroom := R.room
  unfold setAddHashed
  refine wpAny_holding ?_
  rw [show (100000 : Nat) = 99999 + 1 from rfl, setAddHashedIn_succ]
  refine wpAny_bind (wpAny_setState_of ho hd R.fits ?_)
  dsimp only
  refine wp_if_neg (by simp [byScan, Value.scannable]) ?_
  try refine wpAny_bind (wpAny_pure ?_)
  refine wpAny_bind (R.search hx hu ?_ fun Z hZ hb => ?_)
  · dsimp only
    exact wpAny_pure (hQ false s.heap L es ep t (Heap.SameBut.refl a s.heap) R (fun p hp => .inr hp) (Nat.le_succ _))
  · dsimp only
    refine wpAny_bind (wpAny_setState_of ho hd R.fits ?_)
    dsimp only
    obtain ⟨q1, q2, q3, q4, q5, _, _, _, q9⟩ := R.tab.put hZ hb
    generalize t.put (way t.mask (thM P w k) Z) = pt at q1 q3 q4 q5 q9 ⊢
    obtain ⟨t1, p⟩ := pt
    dsimp only at q1 q3 q4 q5 q9 ⊢
    subst q1
    -- whichever the table's mark becomes
    have main : ∀ t2 : SetTable, TabOk t2 ((L.map fun p => thM P w p.2).take (SetTable.below t.place (way t.mask (thM P w k) Z)) ++ thM P w k :: (L.map fun p => thM P w p.2).drop (SetTable.below t.place (way t.mask (thM P w k) Z))) → t2.mask = t.mask → t2.led = t.led → t2.fill = L.length + 1 →
        wpAny (model P w) A (do
          storeSet a (SetTable.insertAt es (SetTable.below t.place (way t.mask (thM P w k) Z)) (thM P w k, Value.ref x)) t2
          if !false && t2.tooFull then setRelay a (SetTable.grown (es.size + 1))
          return true) Q E s := by
      intro t2 q3 q4 q5 q9
      have hin : (SetTable.insertAt es (SetTable.below t.place (way t.mask (thM P w k) Z)) (thM P w k, Value.ref x)).toList = rowM P w (L.take (SetTable.below t.place (way t.mask (thM P w k) Z)) ++ (x, k) :: L.drop (SetTable.below t.place (way t.mask (thM P w k) Z))) := by
        rw [SetTable.toList_insertAt, R.rows]
        unfold rowM
        rw [List.map_append, List.map_cons, List.map_take, List.map_drop]
      generalize SetTable.below t.place (way t.mask (thM P w k) Z) = p at q2 q3 hin ⊢
      have pm := put_perm L p (x, k)
      have hlen : (L.take p ++ (x, k) :: L.drop p).length = L.length + 1 := pm.length_eq
      have hhs : (L.take p ++ (x, k) :: L.drop p).map (fun p => thM P w p.2) = (L.map fun p => thM P w p.2).take p ++ thM P w k :: (L.map fun p => thM P w p.2).drop p := by
        rw [List.map_append, List.map_cons, List.map_take, List.map_drop]
      rw [← hhs] at q3
      have hes : (SetTable.insertAt es p (thM P w k, Value.ref x)).size = L.length + 1 := by rw [rowM_size hin, hlen]
      generalize SetTable.insertAt es p (thM P w k, Value.ref x) = es1 at hin hes ⊢
      generalize L.take p ++ (x, k) :: L.drop p = L1 at pm hlen q3 hin
      refine wpAny_bind (wpAny_storeSet_of ho hd ?_ (by rw [hes, sizeLine_eq]; omega))
      have sb : Heap.SameBut a s.heap (s.heap.update a (Obj.putSet es1 t2)) := Heap.SameBut.update ..
      have ho1 := store_at (es' := es1) (t' := t2) ho hd
      generalize s.heap.update a (Obj.putSet es1 t2) = h1 at sb ho1 ⊢
      have mem1 : ∀ p ∈ L1, p = (x, k) ∨ p ∈ L := fun p hp => List.mem_cons.mp (pm.mem_iff.mp hp)
      have tup1 : ∀ p ∈ L1, IsM P w h1 p.2 p.1 := fun p hp => by
        rcases mem1 p hp with e | hp
        · rw [e]; exact isM_same hx ho hd sb
        · exact isM_same (R.tup p hp) ho hd sb
      have ld1 : w.params.followText "set-order" = true ∨ t2.led = true := by rw [q5]; exact R.led
      by_cases hf : t2.tooFull = true
      · first
          | (refine wpAny_bind ?_; refine wp_if_pos (by simp [hf]) ?_)
          | (refine wp_if_pos (by simp [hf]) ?_; refine wpAny_bind ?_)
        have hfull : (L.length + 1) * 5 ≥ t2.mask * 3 := by
          have h := hf
          unfold SetTable.tooFull at h
          rw [decide_eq_true_eq, q9] at h
          exact h
        rw [hsl]
        have hsz1 : t2.place.size = es1.size := by
          have h := q3.sz
          rw [List.length_map, hlen] at h
          rw [h, hes]
        have cases2 : (t.mask = 7 ∧ L.length = 4) ∨ (t.mask = 31 ∧ L.length = 18) := by
          rcases R.tab.mok with e | e | e
          · left; rw [q4, e] at hfull; rw [e] at hroom; exact ⟨e, by omega⟩
          · right; rw [q4, e] at hfull; rw [e] at hroom; exact ⟨e, by omega⟩
          · exfalso; rw [q4, e] at hfull; omega
        have go : ∀ M, SetTable.sizeAbove (SetTable.grown (L.length + 1)) - 1 = M → MaskOk M → SetTable.sizeAbove (SetTable.grown (L.length + 1)) ≤ 128 → (L.length + 1) * 5 < M * 3 →
            wpAny (model P w) A (setRelay a (SetTable.grown (L.length + 1))) (fun _ s' => wpAny (model P w) A (pure true) Q E s') E { s with heap := h1 } := fun M h1' h2' h3' h4' => by
          refine relayM (s := { s with heap := h1 }) ho1 ⟨hex.1, hex.2.1, hex.2.2⟩ rfl hin hsz1 q3.dm (by rw [hes, q4]; rcases cases2 with ⟨e, e2⟩ | ⟨e, e2⟩ <;> omega) tup1 ld1 (by rw [hlen]; exact hfew) h1' h2' h3' (by rw [hlen]; exact h4') ?_
          intro h2 L2 es2 ep2 t3 sb2 R2 pm2
          exact wpAny_pure (hQ true h2 L2 es2 ep2 t3 (sb.trans sb2) R2 (fun p hp => mem1 p (pm2.mem_iff.mp hp)) (by rw [pm2.length_eq, hlen]; exact Nat.le_refl _))
        rcases cases2 with ⟨_, e2⟩ | ⟨_, e2⟩
        · exact go 31 (by rw [e2, size_20]) (.inr (.inl rfl)) (by rw [e2, size_20]; decide) (by omega)
        · exact go 127 (by rw [e2, size_76]) (.inr (.inr rfl)) (by rw [e2, size_76]; decide) (by omega)
      · first
          | refine wp_if_neg (by simp [hf]) ?_
          | (refine wpAny_bind ?_; refine wp_if_neg (by simp [hf]) ?_; refine wpAny_pure ?_)
        refine wpAny_pure (hQ true h1 L1 es1 (ep + 1) t2 sb ⟨⟨_, ho1, ⟨hex.1, hex.2.1, hex.2.2⟩, rfl⟩, hin, q3, tup1, ld1, ?_, by rw [hlen]; exact hfew⟩ mem1 (by rw [hlen]; exact Nat.le_refl _))
        have h := hf
        unfold SetTable.tooFull at h
        rw [decide_eq_true_eq, q9] at h
        rw [hlen]
        omega
    rw [List.length_map] at q9
    by_cases hp1 : t1.plain = true
    · first
        | (refine wpAny_bind ?_; refine wp_if_pos hp1 ?_; refine hashM hx fun c => ?_)
        | refine wp_if_pos hp1 (wpAny_bind (hashM hx fun c => ?_))
      cases c with
      | true =>
        simp only [if_true]
        exact main t1 q3 q4 q5 q9
      | false =>
        simp only [Bool.false_eq_true, if_false]
        exact main { t1 with plain := false } ⟨q3.ris, q3.dm, q3.sz, q3.mok, q3.bd, q3.reach⟩ q4 q5 q9
    · first
        | (refine wpAny_bind ?_; refine wp_if_neg hp1 ?_; refine wpAny_pure ?_)
        | refine wp_if_neg hp1 (wpAny_bind (wpAny_pure ?_))
      simp only [if_true]
      exact main t1 q3 q4 q5 q9
end
end Fm
namespace Fm
open PySem PySem.Spec PyProof.Rows L2
theorem perm_lift {α β : Type} (f : α → β) {out m : List β} (h : out.Perm m) : ∀ l : List α, m = l.map f → ∃ l' : List α, out = l'.map f ∧ l'.Perm l := by
  induction h with
  | nil =>
    intro l e
    cases l with
    | nil => exact ⟨[], rfl, .nil⟩
    | cons a l => cases e
  | cons x _ ih =>
    intro l e
    cases l with
    | nil => cases e
    | cons a l =>
      injection e with e1 e2
      obtain ⟨l', h1, h2⟩ := ih l e2
      exact ⟨a :: l', by rw [h1, e1]; rfl, h2.cons a⟩
  | swap x y t =>
    intro l e
    cases l with
    | nil => cases e
    | cons a l =>
      cases l with
      | nil => cases e
      | cons b l =>
        injection e with e1 e2
        injection e2 with e2 e3
        exact ⟨b :: a :: l, by rw [e1, e2, e3]; rfl, .swap a b l⟩
  | trans _ _ ih1 ih2 =>
    intro l e
    obtain ⟨l1, h1, h2⟩ := ih2 l e
    obtain ⟨l2, h3, h4⟩ := ih1 l1 h1
    exact ⟨l2, h3, h4.trans h2⟩
/-- what stands at each place, an int or a text -/
abbrev shOf (k : List Key) : List Bool := k.map Sum.isRight
theorem itemsSh {P : Program} {w : World} (sh : Nat → Bool) : ∀ (k : List Key) (vs : List Value) (i : Nat), ItemsAre (mixKind P w) k vs → (∀ j b, (shOf k)[j]? = some b → sh (i + j) = b) → ∃ l, tupItems sh i vs = some l
  | [], _, i, .nil, _ => ⟨[], rfl⟩
  | c :: k, v :: vs, i, .cons h t, hs => by
    obtain ⟨l, hl⟩ := itemsSh sh k vs (i + 1) t fun j b e => by
      have := hs (j + 1) b e
      rwa [show i + (j + 1) = i + 1 + j by omega] at this
    have h0 := hs 0 _ rfl
    rcases keyIs_shape h with ⟨n, tk, rfl, rfl⟩ | ⟨x, tk, rfl, rfl⟩
    · refine ⟨Sum.inl n :: l, ?_⟩
      show (if sh i = true then none else (tupItems sh (i + 1) vs).map (Sum.inl n :: ·)) = some _
      rw [if_neg (by rw [show sh i = false from h0]; exact Bool.false_ne_true), hl]
      rfl
    · refine ⟨Sum.inr x.cps.toList :: l, ?_⟩
      show (if sh i = true then (tupItems sh (i + 1) vs).map (Sum.inr x.cps.toList :: ·) else none) = some _
      rw [if_pos (show sh i = true from h0), hl]
      rfl
theorem tupC_of {P : Program} {w : World} {h : Heap} {sh : List Bool} {k : List Key} {b : Addr} (x : IsM P w h k b) (hs : shOf k = sh) : ∃ l, G.tupKeyC h (fun i => sh.getD i false) (.ref b) = some l := by
  obtain ⟨o, items, n, ho, hc, hd, hi⟩ := x
  obtain ⟨l, hl⟩ := itemsSh (fun i => sh.getD i false) k items.toList 0 hi fun j c e => by
    rw [hs] at e
    rw [Nat.zero_add]
    show sh.getD j false = c
    rw [List.getD_eq_getElem?_getD, e]; rfl
  refine ⟨l, ?_⟩
  unfold G.tupKeyC
  have e1 : G.isTupObj h (.ref b) = true := by
    show (match h.get? b with | some o => (match o.cls with | .type n => n == "tuple" | _ => false) | none => false) = true
    rw [ho]
    show (match o.cls with | .type n => n == "tuple" | _ => false) = true
    rw [hc]; decide
  rw [if_pos e1]
  show (match h.get? b with | some o => (match o.data with | .seq xs _ => tupItems (fun i => sh.getD i false) 0 xs.toList | _ => none) | none => none) = some l
  rw [ho]
  show (match o.data with | .seq xs _ => tupItems (fun i => sh.getD i false) 0 xs.toList | _ => none) = some l
  rw [hd]
  exact hl
theorem tupsOf_of {P : Program} {w : World} {h : Heap} {sh : List Bool} (hne : sh ≠ []) : ∀ (ps : TL), (∀ p ∈ ps, IsM P w h p.2 p.1 ∧ shOf p.2 = sh) → ∃ fs, TupsOf h (fun i => sh.getD i false) (ps.map fun p => Value.ref p.1) fs
  | [], _ => ⟨[], .nil⟩
  | p :: ps, hp => by
    obtain ⟨fs, hf⟩ := tupsOf_of hne ps fun q hq => hp q (List.mem_cons_of_mem _ hq)
    obtain ⟨⟨o, items, n, ho, hc, hd, hi⟩, hs⟩ := hp p List.mem_cons_self
    cases hk : p.2 with
    | nil => rw [hk] at hs; exact absurd hs.symm hne
    | cons c k =>
      rw [hk] at hi hs
      cases hit : items.toList with
      | nil => rw [hit] at hi; cases hi
      | cons f vs =>
        rw [hit] at hi
        have h0 : sh.getD 0 false = c.isRight := by rw [← hs]; rfl
        refine ⟨f :: fs, .cons ⟨p.1, o, items, n, rfl, ho, hc, hd, ?_, fun z => ?_, fun z => ?_⟩ hf⟩
        · rw [← Array.getElem?_toList, hit]; rfl
        · cases hi with
          | cons h1 _ =>
            rcases keyIs_shape h1 with ⟨i, t, rfl, rfl⟩ | ⟨x, t, rfl, rfl⟩
            · exact ⟨i, t, rfl⟩
            · have z' := h0.symm.trans z; cases z'
        · cases hi with
          | cons h1 _ =>
            rcases keyIs_shape h1 with ⟨i, t, rfl, rfl⟩ | ⟨x, t, rfl, rfl⟩
            · have z' := h0.symm.trans z; cases z'
            · exact ⟨x, t, rfl⟩
section
variable {X : Cx} {K : PySem.W.Frag} {w : World} {P : Program}
theorem Inv.isM {pins : List (Addr × Obj)} {σ : L2.St} {H : Hp} {s : Shared} {b : Addr} {k : List Key} (I : Inv X pins σ H s) (h : SqT X.K H b (k.map kV)) : IsM X.prog X.w s.heap k b := by
  obtain ⟨its, r, ⟨o, ho, hc, n, hd⟩, _⟩ := I.tuple h
  exact ⟨o, its.toArray, n, ho, hc, hd, by simpa using items_are r⟩
theorem refs_are : ∀ {ps : TL} {us : List Value}, Vals (ps.map fun p => V.ref p.1) us → us = ps.map fun p => Value.ref p.1
  | [], _, .nil => rfl
  | p :: ps, _, .cons r t => by
    cases r
    rw [refs_are t]; rfl
theorem vals_refs : ∀ ps : TL, Vals (ps.map fun p => V.ref p.1) (ps.map fun p => Value.ref p.1)
  | [] => .nil
  | p :: ps => .cons rfl (vals_refs ps)
/-- sorted(xs), xs a list of tuples of ints and texts, all of one form -/
def rSortTL (K : PySem.W.Frag) : List V → Hp → VK → Prop := fun xs H Q => ∃ (l : Addr) (ps : TL) (sh : List Bool), xs = [V.ref l] ∧ SqL K H l (ps.map fun p => V.ref p.1) ∧ (∀ p ∈ ps, SqT K H p.1 (p.2.map kV) ∧ shOf p.2 = sh) ∧ sh ≠ [] ∧
  ∀ (ps' : TL) (p : Addr), ps'.Perm ps → H p = none → Q (.ref p) (upd H p (.lst (ps'.map fun q => V.ref q.1)))
theorem pairs_perm {vs : List Value} {st' : Array Keyed} (h : st'.Perm (pairsOf vs)) : (st'.map (·.2)).toList.Perm vs := by
  have h1 : st'.toList.Perm (pairsOf vs).toList := h.toList
  rw [pairsOf_toList] at h1
  have h2 := h1.map Prod.snd
  rw [List.map_snd_zip (Nat.le_refl _)] at h2
  rw [Array.toList_map]
  exact h2
theorem kc_sortedTL (h : X.K = K) : CallR X (.builtin "sorted") (rSortTL K) := by
  subst h
  intro pins s σ H xs us Q I r h
  obtain ⟨l, ps, sh, rfl, hl, hp, hne, q⟩ := h
  rw [Vals.ref1 r]
  obtain ⟨its, rv, pl, hz⟩ := I.list hl
  have e := refs_are rv
  have hm : ∀ p ∈ ps, IsM X.prog X.w s.heap p.2 p.1 ∧ shOf p.2 = sh := fun p hpm => ⟨Inv.isM I (hp p hpm).1, (hp p hpm).2⟩
  obtain ⟨fs, hf⟩ := tupsOf_of hne ps hm
  subst e
  refine G.sorted_tups pl.isList hf (fun v hv => ?_) (by rw [List.length_map]; rw [List.length_map] at hz; exact hz) fun st' h1 _ _ => ?_
  · obtain ⟨p, hpm, rfl⟩ := List.mem_map.mp hv
    exact tupC_of (hm p hpm).1 (hm p hpm).2
  · have pm := pairs_perm h1
    generalize (arrOf st').map (·.2) = out at pm
    obtain ⟨ps', e', pm'⟩ := perm_lift (fun p : Addr × List Key => Value.ref p.1) pm ps rfl
    obtain ⟨ep, he'⟩ := PyProof.Rows.sortedAll_at s.heap (ps.map fun p => Value.ref p.1) out
    have hlen : (ps'.map fun q => V.ref q.1).length ≤ sizeLine := by rw [List.length_map, pm'.length_eq]; rw [List.length_map] at hz; exact hz
    exact ⟨.ref _, upd H (s.heap.objs.size + 1) (.lst (ps'.map fun q => V.ref q.1)), I.laid (t' := s.toks) (fun _ _ => PyProof.Rows.sortedAll_old) (Nat.le_succ _) ⟨hlen, out.toList, ep, by rw [e']; exact vals_refs ps', he'⟩, rfl, q ps' _ pm' (I.hok.fresh (Nat.le_succ _))⟩
end
end Fm
namespace Fm
open PySem PySem.Spec PyProof.Rows L2
section
variable {P : Program} {w : World} {A : Around} {E : Value → Shared → Prop} {s : Shared}
theorem setM_bare {h : Heap} {a : Addr} (e : h.get? a = some (bareSet w)) : SetM P w h a [] #[] 0 (.fresh 0 0 (!w.params.followText "set-order")) where
  ob := ⟨_, e, ⟨rfl, rfl, rfl⟩, rfl⟩
  rows := rfl
  tab := ⟨List.Pairwise.nil, rfl, rfl, .inl rfl, fun x hx => (by cases hx), fun i h j hi => (by simp at hi)⟩
  tup := fun p hp => (by cases hp)
  led := by
    show _ ∨ (!w.params.followText "set-order") = true
    cases w.params.followText "set-order"
    · exact .inr rfl
    · exact .inl rfl
  room := by
    show 0 * 5 < 7 * 3
    decide
  few := by decide
theorem SetM.keep {h h' : Heap} {a : Addr} {L : TL} {es : Array (Int × Value)} {ep : Nat} {t : SetTable} (R : SetM P w h a L es ep t) (ha : ∀ o, h.get? a = some o → h'.get? a = some o) (ht : ∀ p ∈ L, IsM P w h' p.2 p.1) : SetM P w h' a L es ep t := by
  obtain ⟨o, ho, r⟩ := R.ob
  exact ⟨⟨o, ha o ho, r⟩, R.rows, R.tab, ht, R.led, R.room, R.few⟩
def GotM (P : Program) (w : World) (S : Addr) (ks : TL) (i : Nat) (h : Heap) : Prop := ∃ L es ep t, SetM P w h S L es ep t ∧ (∀ p ∈ L, p ∈ ks) ∧ L.length ≤ i
theorem adds_tups {S : Addr} {h0 : Heap} {items : Array Value} {ks : TL} (hit : ∀ (i : Nat) (v : Value), items[i]? = some v → ∃ p, p ∈ ks ∧ v = Value.ref p.1) (hk : ∀ p ∈ ks, IsM P w h0 p.2 p.1) (hfew : items.size < 64) (hu : A.units < cLine) :
    Adds P w A S h0 items.size (fun i v => items[i]? = some v) (GotM P w S ks) where
  still := fun ⟨L, es, ep, t, R, sub, len⟩ ha kp => ⟨L, es, ep, t, R.keep ha fun p hp => isM_keep (hk p (sub p hp)) kp, sub, len⟩
  add := by
    intro i v s E Q hi hv hI kp hQ
    obtain ⟨L, es, ep, t, R, sub, len⟩ := hI
    obtain ⟨p, hp, rfl⟩ := hit i v hv
    have hx : IsM P w s.heap p.2 p.1 := isM_keep (hk p hp) kp
    unfold setAdd
    refine wpAny_holding ?_
    refine wpAny_bind (wpAny_pyHash_tuple hu hx ?_)
    refine SetM.add (s := { s with toks := s.toks + (p.2.length + 1) }) R hx hu (by omega) fun b h' L' es' ep' t' sb R' mem len' => ?_
    refine hQ b h' _ sb ⟨L', es', ep', t', R', fun q hq => ?_, by omega⟩ (Nat.le_add_right _ _)
    rcases mem q hq with e | hq
    · rw [e]; exact hp
    · exact sub q hq
/-- the set at a, without the tuples themselves -/
def SetM0 (P : Program) (w : World) (h : Heap) (a : Addr) (L : TL) : Prop := ∃ (es : Array (Int × Value)) (ep : Nat) (t : SetTable), (∃ o, h.get? a = some o ∧ o.ExactSet ∧ o.data = .set es ep t) ∧ es.toList = rowM P w L ∧ TabOk t (L.map fun p => thM P w p.2) ∧
    (w.params.followText "set-order" = true ∨ t.led = true) ∧ L.length * 5 < t.mask * 3 ∧ L.length < 64
def SetMO (P : Program) (w : World) (a : Addr) (L : TL) : HO := .ext fun h => SetM0 P w h a L
theorem setMO_new {H : Hp} {h : Heap} {a : Addr} {L : TL} (R : SetM0 P w h a L) : ObjOk P w H h a (SetMO P w a L) := by
  have ⟨es, ep, t, ⟨o, ho, r⟩, q⟩ := R
  refine ⟨R, ⟨o, ho⟩, fun h1 h2 p k => ?_⟩
  obtain ⟨es', ep', t', ⟨o', ho', r'⟩, q'⟩ := p
  exact ⟨es', ep', t', ⟨o', k o' ho', r'⟩, q'⟩
/-- sorted(set) -/
theorem sorted_setM {a : Addr} {L : TL} {es : Array (Int × Value)} {ep : Nat} {t : SetTable} {sh : List Bool} {Q : Value → Shared → Prop} (R : SetM P w s.heap a L es ep t) (hh : A.handled = none) (hne : sh ≠ []) (hs : ∀ p ∈ L, shOf p.2 = sh)
    (hQ : ∀ s' p (out : Array Value) (c : Nat) (L' : TL), (∀ b o, s.heap.get? b = some o → s'.heap.get? b = some o) → s'.gens = s.gens → s'.os = s.os → s.heap.objs.size ≤ p →
      s'.heap.get? p = some (seqObj "list" out c) → out.toList = L'.map (fun q => Value.ref q.1) → L'.Perm L → Q (.ref p) s') :
    wpAny (model P w) A (call (.builtin "sorted") [.ref a]) Q E s := by
  obtain ⟨o, ho, hex, hd⟩ := R.ob
  have hsz := rowM_size R.rows
  have hfew := R.few
  refine Calls.call_function_entry kind_sorted plain_sorted entry_sorted (args_sorted1 _) ?_
  unfold Builtin.«sorted»
  refine wpAny_bind (m := checkCount "sorted" 1 1 _) (wpAny_pure ?_)
  refine wpAny_bind (collect_set (A := A.in1) hh ⟨o, ho, hex.1, hd⟩ R.fits (by unfold scanBound; omega) R.tab.ris R.led fun s1 vs k1 hz g1 o1 pm => ?_)
  have hes : es.toList.map (·.2) = L.map fun q => Value.ref q.1 := by
    rw [R.rows]
    unfold rowM
    rw [List.map_map]; rfl
  rw [hes] at pm
  obtain ⟨L1, e1, pm1⟩ := perm_lift (fun q : Addr × List Key => Value.ref q.1) pm L rfl
  subst e1
  have hvl : L1.length < 64 := by rw [pm1.length_eq]; exact hfew
  refine wpAny_bind (wpAny_newList ?_ (by rw [List.length_map, sizeLine_eq]; omega))
  have hoL : (s1.heap.push (seqObj "list" (L1.map fun q => Value.ref q.1).toArray 0)).get? s1.heap.objs.size = some (seqObj "list" (L1.map fun q => Value.ref q.1).toArray 0) := Heap.get?_push_size _ rfl
  have hm : ∀ p ∈ L1, IsM P w (s1.heap.push (seqObj "list" (L1.map fun q => Value.ref q.1).toArray 0)) p.2 p.1 ∧ shOf p.2 = sh := fun p hp => by
    have hpL := pm1.mem_iff.mp hp
    exact ⟨isM_keep (R.tup p hpL) fun b u e => Heap.get?_push_of_some _ (k1 b u e), hs p hpL⟩
  obtain ⟨fs, hf⟩ := tupsOf_of hne L1 hm
  refine wpAny_bind (wpAny_holding (wpAny_call_entry slot_list_sort ⟨_, hoL, rfl⟩ entry_list_sort
    (G.list_sort_tups (s := { s1 with heap := s1.heap.push (seqObj "list" (L1.map fun q => Value.ref q.1).toArray 0) }) hoL hf (fun v hv => ?_) (by rw [List.length_map, sizeLine_eq]; omega) fun st' h1 _ _ => ⟨_, rfl, ?_⟩) (args_list_sort _)))
  · obtain ⟨p, hpm, rfl⟩ := List.mem_map.mp hv
    exact tupC_of (hm p hpm).1 (hm p hpm).2
  · have pmo := pairs_perm h1
    generalize (arrOf st').map (·.2) = out at pmo
    obtain ⟨L', e', pm'⟩ := perm_lift (fun p : Addr × List Key => Value.ref p.1) pmo L1 rfl
    obtain ⟨c, hc⟩ := sortedHeap_at (vs := L1.map fun q => Value.ref q.1) (out := out) hoL
    refine wpAny_pure ⟨_, rfl, hQ _ s1.heap.objs.size out c L' (fun b u e => ?_) g1 o1 hz hc e' (pm'.trans pm1)⟩
    have q := k1 b u e
    have hlt := Heap.lt_size q
    show (sortedHeap (s1.heap.push (seqObj "list" (L1.map fun q => Value.ref q.1).toArray 0)) s1.heap.objs.size (L1.map fun q => Value.ref q.1) out).get? b = some u
    rw [sortedHeap_old (Nat.ne_of_lt hlt) (by rw [size_push']; exact Nat.lt_succ_of_lt hlt)]
    exact Heap.get?_push_of_some _ q
end
section
variable {X : Cx} {K : PySem.W.Frag} {w : World} {P : Program}
/-- set(xs), xs a list of tuples of ints and texts -/
def rSetT (K : PySem.W.Frag) (P : Program) (w : World) : List V → Hp → VK → Prop := fun xs H Q => ∃ (l : Addr) (ks : TL), xs = [V.ref l] ∧ SqL K H l (ks.map fun p => V.ref p.1) ∧ (∀ p ∈ ks, SqT K H p.1 (p.2.map kV)) ∧ ks.length < 64 ∧
  ∀ a L, H a = none → (∀ p ∈ L, p ∈ ks) → L.length ≤ ks.length → Q (.ref a) (upd H a (SetMO P w a L))
theorem kc_setT (h : X.K = K) (hP : X.prog = P) (hw : X.w = w) (hc : X.calm = true) (hu : X.A.units + 64 < cLine) : CallR X (.type "set") (rSetT K P w) := by
  subst h hP hw
  intro pins s σ H xs us Q I r h
  obtain ⟨l, ks, rfl, hl, hk, hf, q⟩ := h
  rw [Vals.ref1 r]
  obtain ⟨its, rv, pl, hz⟩ := I.list hl
  have e := refs_are rv
  subst e
  have hsz : ((ks.map fun p => Value.ref p.1).toArray).size = ks.length := by rw [List.size_toArray, List.length_map]
  have hn : H s.heap.objs.size = none := I.hok.fresh (Nat.le_refl _)
  refine call_set_gen (w := X.w) (Iv := GotM X.prog X.w s.heap.objs.size ks) (I.ok.hd hc) pl.isList (fun A' hA _ => adds_tups (fun i v e => ?_) (fun p hp => Inv.isM I (hk p hp)) (by omega) (by omega)) (fun h e _ => ⟨[], _, _, _, setM_bare e, fun p hp => (nomatch hp), Nat.le_refl _⟩) fun h' tk ⟨L, es, ep, t, R, sub, len⟩ kp => ?_
  · rw [List.getElem?_toArray, List.getElem?_map] at e
    cases hq : ks[i]? with
    | none => rw [hq] at e; cases e
    | some p =>
      rw [hq] at e
      exact ⟨p, List.mem_of_getElem? hq, (Option.some.inj e).symm⟩
  · exact ⟨.ref s.heap.objs.size, _, I.laid (t' := tk) kp (Nat.le_refl _) (setMO_new ⟨es, ep, t, R.ob, R.rows, R.tab, R.led, R.room, R.few⟩), rfl, q _ L hn sub (by omega)⟩
/-- sorted(set) -/
def rSortedSetT (K : PySem.W.Frag) (P : Program) (w : World) : List V → Hp → VK → Prop := fun vs H Q => ∃ (a : Addr) (L : TL) (sh : List Bool), vs = [V.ref a] ∧ H a = some (SetMO P w a L) ∧ (∀ p ∈ L, SqT K H p.1 (p.2.map kV) ∧ shOf p.2 = sh) ∧ sh ≠ [] ∧
  ∀ (L' : TL) (p : Addr), L'.Perm L → H p = none → Q (.ref p) (upd H p (.lst (L'.map fun q => V.ref q.1)))
theorem kc_sortedSetT (h : X.K = K) (hP : X.prog = P) (hw : X.w = w) (hc : X.calm = true) : CallR X (.builtin "sorted") (rSortedSetT K P w) := by
  subst h hP hw
  intro pins s σ H vs us Q I r h
  obtain ⟨a, L, sh, rfl, ha, hk, hne, q⟩ := h
  have R0 : SetM0 X.prog X.w s.heap a L := (I.hok a _ ha).1
  obtain ⟨es, ep, t, r1, r2, r3, r4, r5, r6⟩ := R0
  have R : SetM X.prog X.w s.heap a L es ep t := ⟨r1, r2, r3, fun p hp => Inv.isM I (hk p hp).1, r4, r5, r6⟩
  rw [Vals.ref1 r]
  refine sorted_setM R (I.ok.hd hc) hne (fun p hp => (hk p hp).2) fun s' p out c L' k g o hp hg hout pm => ?_
  have hlen : (L'.map fun q => V.ref q.1).length ≤ sizeLine := by rw [List.length_map, sizeLine_eq, pm.length_eq]; omega
  have hn : H p = none := I.hok.fresh hp
  have hv : Vals (L'.map fun q => V.ref q.1) out.toList := by rw [hout]; exact vals_refs L'
  have J : Inv X pins σ (upd H p (.lst (L'.map fun q => V.ref q.1))) { s with heap := s'.heap, gens := s'.gens, drawn := s'.drawn, toks := s'.toks } :=
    I.call (ch := []) (Un.laid k hp hn) (I.hok.laid k hp ⟨hlen, out.toList, c, hv, hg⟩) (by rw [g]; exact I.bare) (fun _ z => nomatch z)
  have e : s' = { s with heap := s'.heap, gens := s'.gens, drawn := s'.drawn, toks := s'.toks } := by
    cases s'
    cases s
    cases o
    rfl
  rw [e]
  exact ⟨.ref p, _, J, rfl, q L' p pm hn⟩
end
end Fm
namespace Fm
open PySem PySem.Spec PyProof.Rows L2
section
variable {X : Cx}
/-- list(text): its letters -/
def rLstS : List V → Hp → VK → Prop := fun xs H Q => ∃ l : List Nat, xs = [V.str ⟨l.toArray⟩] ∧ l.length ≤ 1000 ∧ ∀ p, H p = none → Q (.ref p) (upd H p (.lst (l.map fun c => V.str ⟨#[c]⟩)))
theorem kc_listS (hc : X.calm = true) : CallR X (.type "list") rLstS := by
  intro pins s σ H xs us Q I r h
  obtain ⟨l, rfl, hl, q⟩ := h
  obtain ⟨u, rfl, t, rfl⟩ := vals1 r
  refine call_list_str (I.ok.hd hc) _ t (fun h' tk acc' c' kp hg hacc => ?_) (by rw [List.size_toArray, sizeLine_eq]; omega)
  have hlen : (l.map fun c => V.str ⟨#[c]⟩).length ≤ sizeLine := by rw [List.length_map, sizeLine_eq]; omega
  have hv : Vals (l.map fun c => V.str ⟨#[c]⟩) acc'.toList := by
    have h1 := hacc.1
    rw [List.size_toArray] at h1
    have h2 : ∀ (j : Nat) (v : Value), acc'.toList[j]? = some v → ∃ c t, l[j]? = some c ∧ v = .str ⟨#[c]⟩ t := fun j v e => by
      obtain ⟨c, t, e1, e2⟩ := hacc.2 j v (by rw [← Array.getElem?_toList]; exact e)
      have e1' : l.toArray[j]? = some c := e1
      rw [List.getElem?_toArray] at e1'
      exact ⟨c, t, e1', e2⟩
    have h3 : acc'.toList.length = l.length := by rw [Array.length_toList]; exact h1
    clear hacc h1 hg hlen hl r q
    generalize acc'.toList = us at h2 h3
    induction l generalizing us with
    | nil =>
      cases us with
      | nil => exact .nil
      | cons u us => cases h3
    | cons c l ih =>
      cases us with
      | nil => cases h3
      | cons u us =>
        obtain ⟨c', t, e1, e2⟩ := h2 0 u rfl
        cases e1
        exact .cons ⟨t, e2⟩ (ih us (fun j v e => h2 (j + 1) v e) (by simpa using h3))
  exact ⟨.ref s.heap.objs.size, _, I.laid (t' := tk) kp (Nat.le_refl _) (show ObjOk X.prog X.w _ h' _ (.lst _) from ⟨hlen, acc'.toList, c', hv, by rw [Array.toArray_toList]; exact hg⟩), rfl, q _ (I.hok.fresh (Nat.le_refl _))⟩
end
end Fm
/-! the least of a list of tuples of whole numbers -/
namespace Fm
open PySem PySem.Spec PyProof.Rows L2
/-- all of h0 stands in h -/
abbrev Ovr (h0 h : Heap) : Prop := ∀ b o, h0.get? b = some o → h.get? b = some o
section
variable {prog : Program} {w : World} {A : Around} {R : Result → Shared → Prop} {I S : Addr} {fp wr : List Addr} {n : Nat} {Pv : Nat → Value → Prop} {St : Nat → Heap → Prop} {h0 : Heap} {bt : Nat → Nat → Bool}
abbrev CmpH (prog : Program) (w : World) (A : Around) (h0 : Heap) (Pv : Nat → Value → Prop) (bt : Nat → Nat → Bool) : Prop :=
  ∀ i j a b (z : Shared) (Q : Value → Shared → Prop) (E : Value → Shared → Prop), Ovr h0 z.heap → Pv i a → Pv j b → Q (.bool (bt i j)) z → wpAny (model prog w) A (richCompare .Lt a b) Q E z
theorem ovr_upd {h : Heap} {f : Obj → Obj} (o : Ovr h0 h) (nS : h0.get? S = none) : Ovr h0 (h.update S f) := fun b x e =>
  (Heap.get?_update_other _ _ (fun q : S = b => by rw [← q, nS] at e; exact nomatch e)).trans (o b x e)
theorem ovr_wr {h h' : Heap} (o : Ovr h0 h) (nw : ∀ b ∈ wr, h0.get? b = none) (k : ∀ b x, b ∉ wr → h.get? b = some x → h'.get? b = some x) : Ovr h0 h' := fun b x e =>
  k b x (fun m => by rw [nw b m] at e; exact nomatch e) (o b x e)
theorem loopH (W : Walks prog w A.in1 I fp wr n Pv St) (cm : CmpH prog w A.in1 h0 Pv bt) (nw : ∀ b ∈ wr, h0.get? b = none) (nS : h0.get? S = none) (Sf : S ∉ fp) (k : Nat) :
    ∀ (j : Nat) (z : Shared) (vb : Value) (c : Nat), n - (j + 1) = k → j + 1 ≤ n → St (j + 1) z.heap → Pv (argBest bt j) vb → Ovr h0 z.heap → z.heap.get? S = some { cls := .type "list", dict := none, data := .seq #[vb, vb] c, slots := #[] } →
    (∀ v h' tk, Pv (argBest bt (n - 1)) v → Ovr h0 h' → R (.ok (.ret v)) { z with heap := h', toks := tk }) → codeAny (model prog w) A (.builtin "min.loop" ⟨[.ref I, .none, .ref S], []⟩) R z := by
  have Sw : S ∉ wr := fun q => Sf (W.sub _ q)
  have nm : (toString "min" ++ toString ".loop" : String) = "min.loop" := by decide
  induction k with
  | zero =>
    intro j z vb c hk hj st pb ov gS fin
    have e : j + 1 = n := by omega
    apply codeAny_builtin F.entry_min_loop; rw [Around.under_plainId F.plain_min_loop _]; show wpAny _ A.in1 (seqItems? (.ref S) >>= _) _ _ z
    refine wpAny_bind (wpAny_seqItems gS rfl (show wpAny _ A.in1 (tryCatch (pyNext (.ref I)) _ >>= _) _ _ z from wpAny_bind (wpAny_tryCatch (W.done z _ _ (e ▸ st) fun h' tk kk => ?_))))
    have gS' := kk S _ Sw gS
    exact show wpAny _ A.in1 (updateSeq S (fun _ => #[]) >>= _) _ _ _ from wpAny_bind (wpAny_updateSeq gS' rfl (wpAny_bind (wpAny_letGo (wpAny_pure (fin vb _ tk (by rw [← e]; exact pb) (ovr_upd (ovr_wr ov nw kk) nS))))))
  | succ k ih =>
    intro j z vb c hk hj st pb ov gS fin
    have lt : j + 1 < n := by omega
    apply codeAny_builtin F.entry_min_loop; rw [Around.under_plainId F.plain_min_loop _]; show wpAny _ A.in1 (seqItems? (.ref S) >>= _) _ _ z
    refine wpAny_bind (wpAny_seqItems gS rfl (show wpAny _ A.in1 (tryCatch (pyNext (.ref I)) _ >>= _) _ _ z from wpAny_bind (wpAny_tryCatch (W.item (j + 1) z _ _ lt st fun v h' tk pv st' kk => ?_))))
    have gS' := kk S _ Sw gS
    have ov' := ovr_wr ov nw kk
    refine show wpAny _ A.in1 (tryCatch (holding [v, v] (richCompare .Lt v vb >>= _)) _ >>= _) _ _ _ from wpAny_bind (wpAny_tryCatch (wpAny_holding (wpAny_bind (cm (j + 1) (argBest bt j) v vb _ _ _ ov' pv pb (wpAny_bind (wpAny_holding (wpAny_truthy_bool (wpAny_bind (wpAny_letGo (wpAny_pure ?_))))))))))
    cases hb : bt (j + 1) (argBest bt j) with
    | true =>
      simp only [if_true]
      refine wpAny_bind (wpAny_updateSeq gS' rfl (wpAny_bind (wpAny_letGo ?_)))
      rw [nm]
      exact wpAny_pure ⟨plainId_quiet F.plain_min_loop _, ih (j + 1) _ v _ (by omega) lt (W.frame _ _ _ st' fun b bf o e => (Heap.get?_update_other _ _ (fun q : S = b => Sf (q ▸ bf))).trans e) (by simp only [argBest, hb, if_true]; exact pv) (ovr_upd ov' nS) (Heap.get?_update_self _ gS' rfl)
        fun v' h2 t2 p2 o2 => fin v' h2 t2 p2 o2⟩
    | false =>
      simp only [Bool.false_eq_true, if_false]
      refine wpAny_bind (wpAny_letGo ?_)
      rw [nm]
      exact wpAny_pure ⟨plainId_quiet F.plain_min_loop _, ih (j + 1) _ vb c (by omega) lt st' (by simp only [argBest, hb, Bool.false_eq_true, if_false]; exact pb) ov' gS' fun v' h2 t2 p2 o2 => fin v' h2 t2 p2 o2⟩
theorem loopH0 (W : Walks prog w A.in1 I fp wr n Pv St) (cm : CmpH prog w A.in1 h0 Pv bt) (nw : ∀ b ∈ wr, h0.get? b = none) (nS : h0.get? S = none) (Sf : S ∉ fp) (hn : 0 < n) {z : Shared} {c : Nat} (st : St 0 z.heap) (ov : Ovr h0 z.heap)
    (gS : z.heap.get? S = some { cls := .type "list", dict := none, data := .seq #[] c, slots := #[] }) (fin : ∀ v h' tk, Pv (argBest bt (n - 1)) v → Ovr h0 h' → R (.ok (.ret v)) { z with heap := h', toks := tk }) :
    codeAny (model prog w) A (.builtin "min.loop" ⟨[.ref I, .none, .ref S], []⟩) R z := by
  have Sw : S ∉ wr := fun q => Sf (W.sub _ q)
  have nm : (toString "min" ++ toString ".loop" : String) = "min.loop" := by decide
  apply codeAny_builtin F.entry_min_loop; rw [Around.under_plainId F.plain_min_loop _]; show wpAny _ A.in1 (seqItems? (.ref S) >>= _) _ _ z
  refine wpAny_bind (wpAny_seqItems gS rfl (show wpAny _ A.in1 (tryCatch (pyNext (.ref I)) _ >>= _) _ _ z from wpAny_bind (wpAny_tryCatch (W.item 0 z _ _ hn st fun v h' tk pv st' kk => ?_))))
  have gS' := kk S _ Sw gS
  refine show wpAny _ A.in1 (updateSeq S (fun _ => #[v, v]) >>= _) _ _ _ from wpAny_bind (wpAny_updateSeq gS' rfl ?_)
  rw [nm]
  exact wpAny_pure ⟨plainId_quiet F.plain_min_loop _, loopH W cm nw nS Sf _ 0 _ v _ rfl hn (W.frame _ _ _ st' fun b bf o e => (Heap.get?_update_other _ _ (fun q : S = b => Sf (q ▸ bf))).trans e) pv (ovr_upd (ovr_wr ov nw kk) nS) (Heap.get?_update_self _ gS' rfl) fun v' h2 t2 p2 o2 => fin v' h2 t2 p2 o2⟩
end
section
variable {X : Cx} {K : PySem.W.Frag}
/-- min(xs), xs a list of tuples of whole numbers: one of them, none before it -/
def rMinT (K : PySem.W.Frag) : List V → Hp → VK → Prop := fun vs H Q => ∃ (a : Addr) (ts : List (Addr × List Int)), vs = [V.ref a] ∧ SqL K H a (ts.map fun t => V.ref t.1) ∧ (∀ t ∈ ts, SqT K H t.1 (t.2.map V.int)) ∧ 0 < ts.length ∧
  ∀ t, t ∈ ts → (∀ u ∈ ts, HT.lexLt u.2 t.2 = false) → Q (.ref t.1) H
theorem lex_tot : ∀ xs ys : List Int, HT.lexLt xs ys = false → HT.lexLt ys xs = false → xs = ys
  | [], [], _, _ => rfl
  | [], _ :: _, h, _ => nomatch h
  | _ :: _, [], _, h => nomatch h
  | x :: xs, y :: ys, h1, h2 => by
    rw [HT.lexLt_cons] at h1 h2
    by_cases e : x = y
    · rw [if_pos e] at h1
      rw [if_pos e.symm] at h2
      rw [e, lex_tot xs ys h1 h2]
    · rw [if_neg e] at h1
      rw [if_neg (fun q => e q.symm)] at h2
      have := of_decide_eq_false h1
      have := of_decide_eq_false h2
      omega
theorem lex_irr : ∀ xs : List Int, HT.lexLt xs xs = false
  | [] => rfl
  | x :: xs => by rw [HT.lexLt_cons, if_pos rfl]; exact lex_irr xs
theorem lex_trans : ∀ xs ys zs : List Int, HT.lexLt xs ys = true → HT.lexLt ys zs = true → HT.lexLt xs zs = true
  | [], [], _, h, _ => nomatch h
  | _ :: _, [], _, h, _ => nomatch h
  | _, _ :: _, [], _, h => nomatch h
  | [], _ :: _, _ :: _, _, _ => rfl
  | x :: xs, y :: ys, z :: zs, h1, h2 => by
    rw [HT.lexLt_cons] at h1 h2 ⊢
    by_cases e : x = y
    · rw [if_pos e] at h1
      subst e
      by_cases e2 : x = z
      · rw [if_pos e2] at h2 ⊢
        exact lex_trans xs ys zs h1 h2
      · rw [if_neg e2] at h2 ⊢
        exact h2
    · rw [if_neg e] at h1
      have h3 := of_decide_eq_true h1
      by_cases e2 : y = z
      · subst e2
        rw [if_neg e]; exact h1
      · rw [if_neg e2] at h2
        have h4 := of_decide_eq_true h2
        rw [if_neg (by omega)]
        exact decide_eq_true (by omega)
/-- the place that stays is of a least one -/
theorem argBest_lex (f : Nat → List Int) : ∀ n, argBest (fun i j => HT.lexLt (f i) (f j)) n ≤ n ∧ ∀ j, j ≤ n → HT.lexLt (f j) (f (argBest (fun i j => HT.lexLt (f i) (f j)) n)) = false
  | 0 => ⟨Nat.le_refl _, fun j hj => by
    have : j = 0 := by omega
    subst this; exact lex_irr _⟩
  | n + 1 => by
    obtain ⟨h1, h2⟩ := argBest_lex f n
    generalize hb : argBest (fun i j => HT.lexLt (f i) (f j)) n = b at h1 h2
    show (if HT.lexLt (f (n + 1)) (f (argBest (fun i j => HT.lexLt (f i) (f j)) n)) then n + 1 else argBest (fun i j => HT.lexLt (f i) (f j)) n) ≤ n + 1 ∧ ∀ j, j ≤ n + 1 → HT.lexLt (f j) (f (if HT.lexLt (f (n + 1)) (f (argBest (fun i j => HT.lexLt (f i) (f j)) n)) then n + 1 else argBest (fun i j => HT.lexLt (f i) (f j)) n)) = false
    rw [hb]
    cases q : HT.lexLt (f (n + 1)) (f b) with
    | true =>
      rw [if_pos rfl]
      refine ⟨Nat.le_refl _, fun j hj => ?_⟩
      by_cases e : j = n + 1
      · subst e; exact lex_irr _
      · cases r : HT.lexLt (f j) (f (n + 1)) with
        | false => rfl
        | true => have := lex_trans _ _ _ r q; rw [h2 j (by omega)] at this; exact this.symm
    | false =>
      rw [if_neg (fun z => nomatch z)]
      refine ⟨by omega, fun j hj => ?_⟩
      by_cases e : j = n + 1
      · subst e; exact q
      · exact h2 j (by omega)
theorem refs_ats : ∀ {ts : List (Addr × List Int)} {us : List Value}, Vals (ts.map fun t => V.ref t.1) us → us = ts.map fun t => Value.ref t.1
  | [], _, .nil => rfl
  | _ :: _, _, .cons h r => by cases h; rw [List.map_cons, ← refs_ats r]
theorem kc_minT (h : X.K = K) (hc : X.calm = true) (hu : X.A.units + 64 < cLine) : CallR X (.builtin "min") (rMinT K) := by
  subst h
  intro pins s σ H vs us Q I r h
  obtain ⟨a, ts, rfl, hl, ht, hne, q⟩ := h
  rw [Vals.ref1 r]
  obtain ⟨its, rv, pl, hz⟩ := I.list hl
  have hlist := pl.isList
  have e := refs_ats rv
  subst e
  have nm : (toString "min" ++ toString ".loop" : String) = "min.loop" := by decide
  have hlt : a < s.heap.objs.size := by obtain ⟨_, e, _⟩ := hlist; exact Heap.lt_size e
  have nI : s.heap.get? s.heap.objs.size = none := Heap.get?_none_of_le (Nat.le_refl _)
  apply call_function_tree F.kind_min F.plain_min F.entry_min (F.args_min1 _)
  refine show wpAny _ X.A.in1 (Builtin.Builtins.bindParams "min" ["key", "default"] 0 ⟨[], []⟩ >>= _) _ _ s from wpAny_bind (wpAny_of_eq (show Builtin.Builtins.bindParams "min" ["key", "default"] 0 ⟨[], []⟩ = pure [none, none] from rfl) (wpAny_bind (wpAny_pure (wpAny_bind (wpAny_pyIter_list hlist (wpAny_bind (wpAny_newObj_type ?_)))))))
  rw [nm]
  have hsz : (s.heap.push { cls := .type "list_iterator", data := .fields #[.ref a, .int 0 0] }).objs.size = s.heap.objs.size + 1 := Heap.size_push ..
  refine wpAny_pure ⟨plainId_quiet F.plain_min_loop _, loopH0 (h0 := s.heap) (bt := fun i j => HT.lexLt ((ts.map (·.2)).getD i []) ((ts.map (·.2)).getD j [])) (Walks.list (A := X.A.in1) (I.ok.hd hc) s.heap.objs.size a (Nat.ne_of_lt hlt) (ts.map fun t => Value.ref t.1).toArray) (fun i j u v z Q' E' ov hi hj hq => ?_) (fun b hb => ?_) ?_ ?_ ?_ ?_ ?_ (Heap.get?_push_size _ rfl) fun v h' tk hp ov => ?_⟩
  · obtain ⟨t1, h1, rfl⟩ : ∃ t, ts[i]? = some t ∧ Value.ref t.1 = u := by
      have hi' : (ts.map fun t => Value.ref t.1).toArray[i]? = some u := hi
      rw [List.getElem?_toArray, List.getElem?_map] at hi'
      obtain ⟨t, h1, h2⟩ := Option.map_eq_some_iff.mp hi'
      exact ⟨t, h1, h2⟩
    obtain ⟨t2, h2, rfl⟩ : ∃ t, ts[j]? = some t ∧ Value.ref t.1 = v := by
      have hj' : (ts.map fun t => Value.ref t.1).toArray[j]? = some v := hj
      rw [List.getElem?_toArray, List.getElem?_map] at hj'
      obtain ⟨t, h1, h2⟩ := Option.map_eq_some_iff.mp hj'
      exact ⟨t, h1, h2⟩
    obtain ⟨i1, r1, p1, _⟩ := I.tuple (ht t1 (List.mem_of_getElem? h1))
    obtain ⟨i2, r2, p2, _⟩ := I.tuple (ht t2 (List.mem_of_getElem? h2))
    obtain ⟨o1, a1, b1, n1, c1⟩ := p1
    obtain ⟨o2, a2, b2, n2, c2⟩ := p2
    refine HT.lt_tupInts (A := X.A.in1) ⟨o1, ov _ _ a1, b1, n1, c1⟩ ⟨o2, ov _ _ a2, b2, n2, c2⟩ (intsAre_of r1) (intsAre_of r2) (by show X.A.units + 1 < cLine; omega) ?_
    have e1 : (ts.map (·.2)).getD i [] = t1.2 := by rw [List.getD_eq_getElem?_getD, List.getElem?_map, h1]; rfl
    have e2 : (ts.map (·.2)).getD j [] = t2.2 := by rw [List.getD_eq_getElem?_getD, List.getElem?_map, h2]; rfl
    have hq' : Q' (.bool (HT.lexLt ((ts.map (·.2)).getD i []) ((ts.map (·.2)).getD j []))) z := hq
    rw [e1, e2] at hq'
    exact hq'
  · rw [List.mem_singleton.mp hb]; exact nI
  · exact Heap.get?_none_of_le (by rw [hsz]; omega)
  · intro m
    rw [hsz] at m
    rcases List.mem_cons.mp m with m | m
    · exact absurd m (Nat.succ_ne_self _)
    · have e := List.mem_singleton.mp m
      rw [← e] at hlt
      exact absurd hlt (Nat.not_lt.mpr (Nat.le_succ _))
  · show 0 < (ts.map fun t => Value.ref t.1).toArray.size
    rw [List.size_toArray, List.length_map]; exact hne
  · refine ⟨⟨_, Heap.get?_push_of_some _ (Heap.get?_push_size _ rfl), rfl, rfl⟩, (hlist.push _).push _⟩
  · exact fun b o e => Heap.get?_push_of_some _ (Heap.get?_push_of_some _ e)
  · have hn : (ts.map fun t => Value.ref t.1).toArray.size = ts.length := by rw [List.size_toArray, List.length_map]
    rw [hn] at hp
    obtain ⟨h1, h2⟩ := argBest_lex (fun i => (ts.map (·.2)).getD i []) (ts.length - 1)
    generalize argBest (fun i j => HT.lexLt ((ts.map (·.2)).getD i []) ((ts.map (·.2)).getD j [])) (ts.length - 1) = m at h1 h2 hp
    have hp' : (ts.map fun t => Value.ref t.1).toArray[m]? = some v := hp
    rw [List.getElem?_toArray, List.getElem?_map] at hp'
    obtain ⟨t, h3, rfl⟩ := Option.map_eq_some_iff.mp hp'
    refine ⟨.ref t.1, H, I.kept (t' := tk) ov, rfl, q t (List.mem_of_getElem? h3) fun u hu => ?_⟩
    obtain ⟨j, hj⟩ := List.mem_iff_getElem?.mp hu
    have hjl := (List.getElem?_eq_some_iff.mp hj).1
    have := h2 j (by omega)
    have e1 : (ts.map (·.2)).getD j [] = u.2 := by rw [List.getD_eq_getElem?_getD, List.getElem?_map, hj]; rfl
    have e2 : (ts.map (·.2)).getD m [] = t.2 := by rw [List.getD_eq_getElem?_getD, List.getElem?_map, h3]; rfl
    have this' : HT.lexLt ((ts.map (·.2)).getD j []) ((ts.map (·.2)).getD m []) = false := this
    rw [e1, e2] at this'
    exact this'
end
end Fm
/-! pairs of a cost and a place, told by one code each -/
namespace Fm
open PySem PySem.Spec PyProof.Rows L2
section
variable {X : Cx} {K : PySem.W.Frag}
theorem ko_ltT (h : X.K = K) (hu : X.A.units < cLine) : OpR X (compareOp .Lt) (rLtT K) := by subst h; exact op_ltT hu
/-- sorted(xs), xs a list of fewer than 64 triples of ints in [0, B), B any bound -/
def rSort3 (K : PySem.W.Frag) : List V → Hp → VK → Prop := fun vs H Q => ∃ B : Int, rSortU K 3 B vs H Q
theorem kc_sortT3 (h : X.K = K) : CallR X (.builtin "sorted") (rSort3 K) := by
  subst h
  intro pins s σ H vs us Q I r ⟨B, h⟩
  exact cr_sortT (B := B) (by decide) _ _ _ _ _ _ _ I r h
end
/-- the pair of the code e, n the text's length -/
abbrev dC (n e : Nat) : Nat := e / (n + 1)
abbrev dB (n e : Nat) : Nat := n - e % (n + 1)
abbrev cod (n c b : Nat) : Nat := c * (n + 1) + (n - b)
def pL (n e : Nat) : List Int := [((dC n e : Nat) : Int), -((dB n e : Nat) : Int)]
def rPr (n : Nat) : Rp Nat := fun H v e => ∃ u, v = .ref u ∧ H u = some (.tup ((pL n e).map V.int))
theorem dC_cod {n c b : Nat} (h : b ≤ n) : dC n (cod n c b) = c := by
  unfold dC cod
  rw [Nat.mul_comm, Nat.mul_add_div (by omega), Nat.div_eq_of_lt (by omega), Nat.add_zero]
theorem dB_cod {n c b : Nat} (h : b ≤ n) : dB n (cod n c b) = b := by
  unfold dB cod
  rw [Nat.mul_comm, Nat.mul_add_mod, Nat.mod_eq_of_lt (by omega)]
  omega
theorem cod_d (n e : Nat) : cod n (dC n e) (dB n e) = e := by
  unfold cod dC dB
  have h1 := Nat.mod_lt e (show 0 < n + 1 by omega)
  have h2 := Nat.div_add_mod e (n + 1)
  have h3 : n - (n - e % (n + 1)) = e % (n + 1) := by omega
  rw [h3, Nat.mul_comm]; exact h2
theorem dB_le (n e : Nat) : dB n e ≤ n := Nat.sub_le _ _
theorem cod_add (n e d : Nat) : cod n (dC n e + d) (dB n e) = e + d * (n + 1) := by
  have := cod_d n e
  unfold cod at this ⊢
  rw [Nat.add_mul]
  omega
theorem pL_cod {n c b : Nat} (h : b ≤ n) : pL n (cod n c b) = [(c : Int), -(b : Int)] := by
  unfold pL
  rw [dC_cod h, dB_cod h]
theorem pL_lt (n e f : Nat) : HT.lexLt (pL n e) (pL n f) = decide (e < f) := by
  have h1 := cod_d n e
  have h2 := cod_d n f
  have b1 := dB_le n e
  have b2 := dB_le n f
  unfold pL
  generalize dC n e = c at *
  generalize dC n f = c' at *
  generalize dB n e = b at *
  generalize dB n f = b' at *
  subst h1 h2
  unfold cod
  rw [HT.lexLt_cons]
  by_cases q : (c : Int) = c'
  · have q' : c = c' := Int.ofNat.inj q
    subst q'
    rw [if_pos rfl, HT.lexLt_cons]
    by_cases r : -(b : Int) = -(b' : Int)
    · have : b = b' := by omega
      subst this
      rw [if_pos rfl]
      simp [HT.lexLt_nil_nil]
    · rw [if_neg r]
      exact decide_eq_decide.mpr (by omega)
  · rw [if_neg q]
    refine decide_eq_decide.mpr ?_
    have q' : c ≠ c' := fun z => q (by rw [z])
    constructor
    · intro h
      have : c + 1 ≤ c' := by omega
      have := Nat.mul_le_mul_right (n + 1) this
      rw [Nat.add_mul] at this
      omega
    · intro h
      apply Decidable.byContradiction
      intro z
      have : c' + 1 ≤ c := by omega
      have := Nat.mul_le_mul_right (n + 1) this
      rw [Nat.add_mul] at this
      omega
theorem pL_inj {n e f : Nat} (h : pL n e = pL n f) : e = f := by
  have h1 := pL_lt n e f
  have h2 := pL_lt n f e
  rw [h] at h1 h2
  rw [lex_irr] at h1 h2
  have := of_decide_eq_false h1.symm
  have := of_decide_eq_false h2.symm
  omega
end Fm
namespace Fm
open PySem L2
/-- is the other one taken? -/
def takes : Option Nat → Option Nat → Bool
  | none, _ => true
  | some e, some f => decide (f < e)
  | some _, none => false
def spBetter : Sp := fun vs H Q _ => ∃ (n : Nat) (v1 v2 : V) (o1 o2 : Option Nat), vs = [v1, v2] ∧ rO (rPr n) H v1 o1 ∧ rO (rPr n) H v2 o2 ∧ Q (if takes o1 o2 then v2 else v1) H
section
variable {P : Program} {w : World} {K : PySem.W.Frag} {g : Str → Option Value} {base : Heap}
theorem ok_better (T : Txt K g) : FnOk P w K g base CX0 1 T.d_better.f T.d_better.fd P_better spBetter := by
  refine T.d_better.F.ok sc_better (fun vs H Q E h => ?_) (fun cdv A outer s H vs Q E hr h => ?_)
  · obtain ⟨_, _, _, _, _, rfl, _⟩ := h
    rfl
  · obtain ⟨n, v1, v2, o1, o2, rfl, h1, h2, kk⟩ := h
    have hu := hu_of hr
    refine ⟨_, (pss_cons (ps_if (PW.pt (pw_or (pt_cmpR op_isN (pv 0) pe_non (nomark _)) (pw_or1 (PW.pt (pw_and (pt_cmpR op_notN (pv 1) pe_non (nomark _)) (pw_and1 (pt_cmpR (ko_ltT (K := K) rfl hr.units0) (pv 1) (pv 0) (nomark _))))))))
      (pss_one (ps_ret (pv 1)))
      pss_nil)
    (pss_one (ps_ret (pv 0)))), ?_⟩
    cases o1 with
    | none =>
      have h1' : v1 = .non := h1
      subst h1'
      exact ⟨_, rfl, rfl, _, rfl, iteT (iteT ⟨_, rfl, kk⟩)⟩
    | some e =>
      obtain ⟨u, rfl, hu1⟩ := h1
      cases o2 with
      | none =>
        have h2' : v2 = .non := h2
        subst h2'
        exact ⟨_, rfl, rfl, _, rfl, iteF ⟨_, rfl, rfl, _, rfl, iteF (iteF ⟨_, rfl, kk⟩)⟩⟩
      | some f =>
        obtain ⟨u2, rfl, hu2⟩ := h2
        refine ⟨_, rfl, rfl, _, rfl, iteF ⟨_, rfl, rfl, _, rfl, iteT ⟨_, rfl, _, rfl, u2, u, pL n f, pL n e, rfl, rfl, SqT.of hu2, SqT.of hu1, _, rfl, ?_⟩⟩⟩
        rw [pL_lt]
        have kk' : Q (if decide (f < e) = true then .ref u2 else .ref u) H := kk
        by_cases q : f < e
        · rw [decide_eq_true q] at kk' ⊢
          exact iteT ⟨_, rfl, kk'⟩
        · rw [decide_eq_false q] at kk' ⊢
          exact iteF ⟨_, rfl, kk'⟩
end
end Fm
namespace Fm
open PySem L2
instance {n : Nat} : Mo (rPr n) := ⟨fun f ⟨u, e, h⟩ => ⟨u, e, f.tups _ _ h⟩⟩
def pD (n : Nat) : Option Nat → PyData
  | none => .none
  | some e => .tuple [.int (dC n e : Nat), .int (-((dB n e : Nat) : Int))]
theorem dp_pr {K : PySem.W.Frag} {H : Hp} {n : Nat} {v : V} {o : Option Nat} (h : rO (rPr n) H v o) : Dp K H v (pD n o) := by
  cases o with
  | none =>
    have : v = .non := h
    subst this; exact .non
  | some e =>
    obtain ⟨u, rfl, hu⟩ := h
    exact .tup (SqT.of hu) (.cons (.int _) (.cons (.int _) .nil))
theorem sh_pr (n : Nat) (o : Option Nat) : SeqAt.shaped (pD n o) = true := by
  cases o <;> rfl
theorem eqv_pr (n : Nat) (o p : Option Nat) : PyData.eqv (pD n o) (pD n p) = decide (o = p) := by
  cases o with
  | none => cases p <;> simp [pD, PyData.eqv]
  | some e =>
    cases p with
    | none => simp [pD, PyData.eqv]
    | some f =>
      simp only [pD, PyData.eqv, PyData.eqvAll]
      by_cases q : e = f
      · subst q; simp
      · rw [decide_eq_false (fun z => q (Option.some.inj z))]
        have : ¬ pL n e = pL n f := fun z => q (pL_inj z)
        unfold pL at this
        apply Decidable.byContradiction
        intro z
        apply this
        generalize dC n e = c1 at *
        generalize dC n f = c2 at *
        generalize dB n e = c3 at *
        generalize dB n f = c4 at *
        simp at z
        obtain ⟨z1, z2⟩ := z
        rw [z1, z2]

theorem takes_bet {o : Option Nat} {v : Nat} {v1 v2 : V} (h : Bet o v) : (if takes o (some v) = true then v2 else v1) = v2 := by
  cases o with
  | none => rfl
  | some e => exact if_pos (decide_eq_true (h e rfl))
theorem takes_not {n : Nat} {H : Hp} {o : Option Nat} {v : Nat} {v1 v2 : V} (h : ¬ Bet o v) (_ : rO (rPr n) H v1 o) : (if takes o (some v) = true then v2 else v1) = v1 := by
  cases o with
  | none => exact absurd bet_none h
  | some e =>
    refine if_neg ?_
    show ¬ decide (v < e) = true
    rw [decide_eq_false (fun z => h (bet_some.mpr z))]
    exact fun z => nomatch z
theorem bet_ne {o : Option Nat} {v : Nat} (h : Bet o v) : ¬ (some v = o) := by
  rintro rfl
  exact Nat.lt_irrefl _ (h v rfl)
/-- moves at codes -/
def ScN (n : Nat) (S : Nat → Nat → Nat → Prop) (h to d : Nat) : Prop := ∃ c, S h to c ∧ d = c * (n + 1)
/-- a row of pairs at p -/
def Rw (n : Nat) (H : Hp) (p : Addr) (told : CRow) : Prop := ∃ xs, H p = some (.lst xs) ∧ Al (rO (rPr n)) H xs told
theorem Rw.f {n : Nat} {H H' : Hp} {p : Addr} {told : CRow} (r : Rw n H p told) (f : Fe H H') : Rw n H' p told := by
  obtain ⟨xs, h, a⟩ := r
  exact ⟨xs, f.k h, Al.me f a⟩
theorem Rw.put {n : Nat} {H : Hp} {p : Addr} {told : CRow} {xs : List V} (h : H p = some (.lst xs)) (a : Al (rO (rPr n)) H xs told) {to : Nat} {v : V} {o : Option Nat} (q : rO (rPr n) H v o) : Rw n (upd H p (.lst (xs.set to v))) p (told.set to o) := by
  have f : Fx [p] H (upd H p (.lst (xs.set to v))) := Fx.put h (List.mem_singleton.mpr rfl) (fun _ z => nomatch z)
  exact ⟨_, upd_same, Al.set (Mo.mo f q) to (Al.mo f a)⟩
theorem Rw.ne {n : Nat} {H : Hp} {p q : Addr} {told : CRow} {o : HO} (r : Rw n H p told) (h : H q = some o) (z : ∀ xs, o ≠ .lst xs) : q ≠ p := by
  rintro rfl
  obtain ⟨xs, e, _⟩ := r
  rw [h] at e
  exact z _ (Option.some.inj e)
theorem Rw.rl {n : Nat} {H : Hp} {p : Addr} {told : CRow} (r : Rw n H p told) : rL (rO (rPr n)) H (.ref p) told := by
  obtain ⟨xs, h, a⟩ := r
  exact ⟨p, xs, rfl, h, a⟩
theorem pL_add (N e d : Nat) : (pL N (e + d * (N + 1))).map V.int = [.int ((dC N e : Nat) + (d : Nat) : Int), .int (-((dB N e : Nat) : Int))] := by
  rw [← cod_add, pL_cod (dB_le N e)]
  rfl
def CLWp (N : Nat) (sf a p : Addr) (H : Hp) (n : Nat) (S : Nat → Nat → Nat → Prop) (A0 : Nat → Nat → Prop) (M D : Nat) (k : Nat) (σ' : L2.St) (H' : Hp) : Prop :=
  ∃ (told : CRow) (fs : List Nat) (F : Addr) (o4 o5 o6 o7 o8 o9 : Option V), σ' = [some (.ref sf), some (.ref a), some (.ref p), some (.ref F), o4, o5, o6, o7, o8, o9] ∧ Fe H H' ∧ F ≠ p ∧
    Rw N H' p told ∧ H' F = some (.lst (fs.map vN)) ∧ Rlx n S A0 M D told ∧ (∀ h ∈ fs, h < n ∧ ∃ c, told[h]? = some (some c)) ∧ Rxs S told (· ∈ fs) ∧ k = 2 * Phi (M + n * D) told + (if fs = [] then 0 else 1)
def CLIp (N : Nat) (sf a p F G : Addr) (H : Hp) (n : Nat) (S : Nat → Nat → Nat → Prop) (A0 : Nat → Nat → Prop) (M D : Nat) (fs : List Nat) (i h c ph : Nat) (mv : List (Nat × Nat × Unit)) (j : Nat) (σ' : L2.St) (H2 : Hp) : Prop :=
  ∃ (told' : CRow) (ks : List Nat) (o6 o7 o8 o9 : Option V), σ' = [some (.ref sf), some (.ref a), some (.ref p), some (.ref F), some (.ref G), some (vN h), o6, o7, o8, o9] ∧ Fe H H2 ∧
    Rw N H2 p told' ∧ H2 F = some (.lst (fs.map vN)) ∧ H2 G = some (.dK (tks kN ks)) ∧ ks.Nodup ∧ Rlx n S A0 M D told' ∧ (∀ h ∈ fs, h < n ∧ ∃ c, told'[h]? = some (some c)) ∧
    (∀ h ∈ ks, h < n ∧ ∃ c, told'[h]? = some (some c)) ∧ told'[h]? = some (some c) ∧ Rxs S told' (fun h' => h' ∈ fs.drop (i + 1) ∨ h' ∈ ks ∨ h' = h) ∧ (∀ to d, (to, d, ()) ∈ mv.take j → Rx told' h to (d * (N + 1))) ∧
    Phi (M + n * D) told' ≤ ph ∧ (ks ≠ [] → Phi (M + n * D) told' < ph)
/-- what a def that returns a row of pairs promises -/
def RowP (N : Nat) (H : Hp) (n : Nat) (A : Nat → Nat → Prop) (Q : VK) : Prop := ∀ (p : Addr) (H' : Hp) (row' : CRow), Fe H H' → H p = none → Rw N H' p row' → LRow n A row' → Q (.ref p) H'
def spClosedP (C : Addr) : Sp := fun vs H Q _ => ∃ (N : Nat) (b : Book) (m : Mach) (sts : List Stg) (sf : Addr) (v : V) (row : CRow) (A : Nat → Nat → Prop), vs = [.ref sf, v] ∧ Wb C b m sts H sf ∧ Std b m sts ∧ rL (rO (rPr N)) H v row ∧ LRow sts.length A row ∧
  RowP N H sts.length (Cl (ScN N (Told b m sts none)) A) Q
def spBehindP (C : Addr) : Sp := fun vs H Q _ => ∃ (N : Nat) (b : Book) (m : Mach) (sts : List Stg) (sf : Addr) (v : V) (row : CRow) (A : Nat → Nat → Prop) (x : Nat), vs = [.ref sf, v, .str ⟨#[x]⟩] ∧ Wb C b m sts H sf ∧ Std b m sts ∧ rL (rO (rPr N)) H v row ∧ LRow sts.length A row ∧ x ∈ b.1 ∧
  RowP N H sts.length (Bh (ScN N (Told b m sts (some x))) A) Q
section
variable {P : Program} {w : World} {K : PySem.W.Frag} {g : Str → Option Value} {base : Heap}
theorem ok_closed_pairs (T : Txt K g) : FnOk P w K g base CX0 2 T.d_closed_pairs.f T.d_closed_pairs.fd P_closed_pairs (spClosedP T.c_MoveWeb) := by
  refine T.d_closed_pairs.F.ok sc_closed_pairs (fun vs H Q E h => ?_) (fun cdv A outer s H vs Q E hr h => ?_)
  · obtain ⟨_, _, _, _, _, _, _, _, rfl, _⟩ := h
    rfl
  · obtain ⟨N, b, m, sts, sf, v, row, A, rfl, hw, sd, hrow, hA, kk⟩ := h
    have hu := hu_of hr
    refine ⟨_, (pss_cons (ps_set (i := 2) sc_closed_pairs.nd rfl (by first | exact Or.inl rfl | exact Or.inr rfl) (pe_callTy (kc_list (K := K) rfl) (by rfl) T.z_list (by decide +kernel) (pa_cons (pv 1) pa_nil)))
    (pss_cons (ps_setLc (i := 3) (own := [("home", 5), ("pair", 9)]) rfl sc_closed_pairs.nd rfl rfl (sw_true rfl rfl rfl (by decide +kernel)) (ki_enum (K := K) rfl rfl T.z_enumerate (pa_cons (pv 2) pa_nil)) (blkOk_by (N := N_closed_pairs) (sc := defScope s_closed_pairs) (by decide +kernel)) (fun _ _ _ _ _ => by exact (kg_tup (K := K) 2 rfl rfl (pgs_cons (pg_name (i := 5) sc_closed_pairs.nd rfl (by first | exact Or.inl rfl | exact Or.inr rfl)) (pgs_cons (pg_name (i := 9) sc_closed_pairs.nd rfl (by first | exact Or.inl rfl | exact Or.inr rfl)) pgs_nil)))) (fun _ _ _ _ _ => by exact pts_one (pt_cmpR op_notN (pv 9) pe_non (nomark _))) (fun _ _ _ _ _ => by exact (pv 5)))
    (pss_cons (ps_while PassesOwn.never (kt_truth (K := K) rfl (pv 3))
      (pss_cons (ps_set (i := 4) sc_closed_pairs.nd rfl (by first | exact Or.inl rfl | exact Or.inr rfl) pe_dnewK)
      (pss_cons (ps_for PassesOwn.never rfl (ki_list (K := K) rfl (pv 3)) (pg_name (i := 5) sc_closed_pairs.nd rfl (by first | exact Or.inl rfl | exact Or.inr rfl))
        (pss_one (ps_for PassesOwn.never rfl (ki_list (K := K) rfl (pe_ix (kx_list (K := K) rfl) (ke_fld (K := K) rfl (pv 0) rfl) (pv 5) (fun _ _ => rfl))) (kg_tup (K := K) 3 rfl rfl (pgs_cons (pg_name (i := 6) sc_closed_pairs.nd rfl (by first | exact Or.inl rfl | exact Or.inr rfl)) (pgs_cons (pg_name (i := 7) sc_closed_pairs.nd rfl (by first | exact Or.inl rfl | exact Or.inr rfl)) (pgs_cons (pg_name (i := 8) sc_closed_pairs.nd rfl (by first | exact Or.inl rfl | exact Or.inr rfl)) pgs_nil))))
          (pss_cons (ps_set (i := 9) sc_closed_pairs.nd rfl (by first | exact Or.inl rfl | exact Or.inr rfl) (pe_tup (pa_cons (pe_op op_add (pe_ix (kx_tup (K := K) rfl) (pe_ix (kx_list (K := K) rfl) (pv 2) (pv 5) (fun _ _ => rfl)) pe_int (fun _ _ => rfl)) (pv 7)) (pa_cons (pe_ix (kx_tup (K := K) rfl) (pe_ix (kx_list (K := K) rfl) (pv 2) (pv 5) (fun _ _ => rfl)) pe_int (fun _ _ => rfl)) pa_nil))))
          (pss_one (ps_if (pt_cmpR (ko_neD (K := K) rfl hr.units) (pe_call (ok_better T) (hr.mono (by decide)) rfl T.d_better.mg T.d_better.kp T.d_better.b .nil pass0 (pa_cons (pe_ix (kx_list (K := K) rfl) (pv 2) (pv 6) (fun _ _ => rfl)) (pa_cons (pv 9) pa_nil))) (pe_ix (kx_list (K := K) rfl) (pv 2) (pv 6) (fun _ _ => rfl)) (nomark _))
            (pss_cons (ps_asg (pv 9) (pg_sub (pv 2) (pv 6) set_list))
            (pss_one (ps_dput hu (pv 4) (pv 6) pe_bl rfl)))
            pss_nil))))))
      (pss_one (ps_set (i := 3) sc_closed_pairs.nd rfl (by first | exact Or.inl rfl | exact Or.inr rfl) (pe_callTy (kc_listD rfl) (by rfl) T.z_list (by decide +kernel) (pa_cons (pv 4) pa_nil)))))))
    (pss_one (ps_ret (pv 2)))))), ?_⟩
    obtain ⟨a, xs, rfl, ha, hxs⟩ := id hrow
    have hfew := sd.few
    have hlen := hA.len
    have hxl := hxs.len
    -- told = list(row)
    refine ⟨_, rfl, a, _, rfl, .inl (SqL.of ha), fun p hp => ?_⟩
    have e0 : Fe H (upd H p (.lst xs)) := Fe.new hp
    -- fresh
    refine ⟨_, rfl, p, _, rfl, SqL.of upd_same, fun F hF => lc_by row.length (fun i H' => Cmp rN _ F (fr row i) H' ∧ H' p = some (.lst xs)) ⟨Cmp.start hF, by rw [upd_ne (ne_of_none upd_same hF)]; exact upd_same⟩ (fun i H' hi c => ?_) (fun H' c => ?_) ?_ ?_⟩
    · exact enum_go c.2 (by omega)
    · exact enum_stop c.2 (by omega)
    · intro i x H' H4 hi c hyd
      obtain ⟨U, y, rfl, hU, rfl, hy⟩ := enum_yld c.2 hyd
      clear hyd
      obtain ⟨o, ho, hyr⟩ := (Al.me (e0.trans c.1.fe) hxs).get hy
      have fU : Fe H' (upd H' U (.tup [.int (i : Int), y])) := Fe.new hU
      refine ⟨U, _, rfl, SqT.of upd_same, rfl, _, _, rfl, _, _, rfl, rfl, rfl, ?_⟩
      have q := fr_succ row i
      rw [ho] at q
      have hfl : (fr row i).length < 1000000 := by have := fr_len row i; omega
      have nF : p ≠ F := ne_of_none upd_same hF
      cases o with
      | none =>
        have hy0 : y = .non := hyr
        subst hy0
        rw [show fr row (i + 1) = fr row i from q.trans (List.append_nil _)]
        exact ⟨_, rfl, rfl, _, rfl, iteF ⟨c.1.skip fU, fU.k c.2⟩⟩
      | some d =>
        obtain ⟨u, rfl, hu1⟩ := hyr
        rw [show fr row (i + 1) = fr row i ++ [i] from q]
        refine ⟨_, rfl, rfl, _, rfl, iteT ⟨_, rfl, ?_⟩⟩
        obtain ⟨acc, h1, h2, h3⟩ := c.1.add hfl fU (show rN _ (vN i) i from rfl)
        exact ⟨acc, h1, h2, h3, by rw [upd_ne nF]; exact fU.k c.2⟩
    · intro H1 c
      obtain ⟨_, xs0, eF, hFx, hFl⟩ := c.1.rl
      cases eF
      have e1 := e0.trans c.1.fe
      obtain ⟨M, hM⟩ := row_max row
      obtain ⟨D, hD⟩ := list_max (b.2.map fun e => e.2.2)
      have hDS : ∀ h to d, Told b m sts none h to d → d * (N + 1) ≤ D * (N + 1) := fun h to d t => by
        rcases told_cost t with rfl | h
        · rw [Nat.zero_mul]; exact Nat.zero_le _
        · exact Nat.mul_le_mul_right _ (hD _ h)
      have hfn := hFl.nats
      subst hfn
      have nF : F ≠ p := (ne_of_none upd_same hF).symm
      have hn : ∀ h c, row[h]? = some (some c) → h < row.length := fun h c e => (List.getElem?_eq_some_iff.mp e).1
      have hR1 : Rw N H1 p row := ⟨xs, c.2, Al.me e1 hxs⟩
      refine ⟨CLWp N sf a p H sts.length (ScN N (Told b m sts none)) A M (D * (N + 1)), ⟨_, row, fr row row.length, F, _, _, _, _, _, _, rfl, e1, nF, hR1, hFx, .start hA hM, fun h hh => ?_, fun h to d hnot s c' hc' => ?_, rfl⟩, ?_⟩
      · obtain ⟨h1, h2⟩ := fr_mem.mp hh
        exact ⟨by omega, h2⟩
      · exact absurd (fr_mem.mpr ⟨hn h c' hc', c', hc'⟩) hnot
      clear hFx hFl nF c hR1
      generalize hS : ScN N (Told b m sts none) = S at kk ⊢
      generalize hDD : D * (N + 1) = DD at hDS ⊢
      rintro k σ' H' ⟨told, fs, F, o4, o5, o6, o7, o8, o9, rfl, e, nF, hP, hFx, R, hfs, rx, rfl⟩
      refine ⟨_, rfl, !(fs.map vN).isEmpty, .inl ⟨_, SqL.of hFx, rfl⟩, ?_⟩
      cases hfse : fs with
      | nil =>
        subst hfse
        exact iteF ⟨_, rfl, kk p H' told e hp hP (R.done fun k to d s => rx k to d (by simp) s)⟩
      | cons f0 fs0 =>
        refine iteT ⟨fun σ2 H2 => ∃ k', k' < 2 * Phi (M + sts.length * DD) told + (if f0 :: fs0 = [] then 0 else 1) ∧ CLWp N sf a p H sts.length S A M DD k' σ2 H2, fun _ _ z => z, ?_⟩
        rw [← hfse]
        have hne : fs ≠ [] := by rw [hfse]; exact fun z => nomatch z
        clear hfse f0 fs0
        rw [if_neg hne]
        intro G hG
        have eG : Fe H' (upd H' G (.dK [])) := Fe.new hG
        refine ⟨_, rfl, F, rfl, ⟨_, SqL.of (eG.k hFx)⟩, for_lst (xs := fs.map vN) (fun i σ' H2 => ∃ (told' : CRow) (ks : List Nat) (o5 o6 o7 o8 o9 : Option V), σ' = [some (.ref sf), some (.ref a), some (.ref p), some (.ref F), some (.ref G), o5, o6, o7, o8, o9] ∧ Fe H H2 ∧
          Rw N H2 p told' ∧ H2 F = some (.lst (fs.map vN)) ∧ H2 G = some (.dK (tks kN ks)) ∧ ks.Nodup ∧ Rlx sts.length S A M DD told' ∧ (∀ h ∈ fs, h < sts.length ∧ ∃ c, told'[h]? = some (some c)) ∧
          (∀ h ∈ ks, h < sts.length ∧ ∃ c, told'[h]? = some (some c)) ∧ Rxs S told' (fun h => h ∈ fs.drop i ∨ h ∈ ks) ∧ Phi (M + sts.length * DD) told' ≤ Phi (M + sts.length * DD) told ∧ (ks ≠ [] → Phi (M + sts.length * DD) told' < Phi (M + sts.length * DD) told))
          ⟨told, [], _, _, _, _, _, rfl, e.trans eG, hP.f eG, eG.k hFx, upd_same, List.nodup_nil, R, hfs, (fun _ z => nomatch z), fun h to d q s => rx h to d (fun z => q (.inl z)) s, Nat.le_refl _, fun z => absurd rfl z⟩ (fun i σ' H2 _ ⟨_, _, _, _, _, _, _, _, _, _, q, _⟩ => q) ?_ ?_⟩
        · rintro i x σ' H2 hx ⟨told', ks, o5, o6, o7, o8, o9, rfl, e2, hP2, hF2, hG2, hkn, R2, hfs2, hks2, rx2, ph1, ph2⟩
          have hi : i < fs.length := by
            have := (List.getElem?_eq_some_iff.mp hx).1
            rwa [List.length_map] at this
          rw [List.getElem?_map, List.getElem?_eq_getElem hi] at hx
          cases hx
          obtain ⟨hhn, c, hc⟩ := hfs2 fs[i] (List.getElem_mem hi)
          have hdrop : fs.drop i = fs[i] :: fs.drop (i + 1) := List.drop_eq_getElem_cons hi
          rw [hdrop] at rx2
          generalize fs[i] = h at hhn hc hdrop rx2 ⊢
          obtain ⟨H0, L, dx, vb, vm, as, ss, ah, rd, W, Rww⟩ := id hw
          obtain ⟨p0, hp0, hins⟩ := W.ins
          obtain ⟨d, q, ys, mv, hd, hd1, hq, hys, hal, hmv⟩ := Rww.here W.mats (j := 0) (k := none) rfl hhn
          have ep : p0 = d.1 := by
            rw [List.getElem?_map, hd] at hp0
            exact (Option.some.inj hp0).symm
          subst ep
          refine ⟨_, rfl, sf, _, dx, _, _, rfl, e2.k hins, T.cl_MoveWeb, T.na_MoveWeb_silent, wfl_l, _, rfl, d.1, _, _, .ref q, rfl, rfl, SqL.of (e2.k hd1), atI_nat (by rw [List.getElem?_map, hq]; rfl), q, rfl, ⟨_, SqL.of (e2.k hys)⟩, for_lst (xs := ys) (CLIp N sf a p F G H sts.length S A M DD fs i h c (Phi (M + sts.length * DD) told) mv)
            ⟨told', ks, _, _, _, _, rfl, e2, hP2, hF2, hG2, hkn, R2, hfs2, hks2, hc, fun h' to d z s => rx2 h' to d (fun z' => z (z'.elim (fun z' => (List.mem_cons.mp z').elim (fun z' => .inr (.inr z')) .inl) (fun z' => .inr (.inl z')))) s, (fun _ _ z => nomatch z), ph1, ph2⟩
            (fun j σ' H2 _ ⟨_, _, _, _, _, _, _, e, _⟩ => e.k hys) ?_ ?_⟩
          · clear hdrop rx2 hks2 hfs2 hkn hG2 hF2 hP2 e2 R2 hc ph1 ph2
            rintro j x σ' H3 hx ⟨told1, k1, o6, o7, o8, o9, rfl, e3, hP3, hF3, hG3, hkn, R3, hfs3, hks3, hc, rx3, hmj, ph1, ph2⟩
            obtain ⟨⟨to, cost, u⟩, hto, hxr⟩ := hal.get hx
            obtain ⟨ua, x1, x2, x3, rfl, hua, rfl, rfl, _⟩ := id hxr
            have hT : Told b m sts none h to cost := (hmv to cost).mp (List.mem_of_getElem? hto)
            have hSS : S h to (cost * (N + 1)) := by rw [← hS]; exact ⟨cost, hT, rfl⟩
            have hton := (told_lt hT).2
            obtain ⟨oo, hto1⟩ : ∃ oo, told1[to]? = some oo := ⟨told1[to]'(by rw [R3.len]; exact hton), List.getElem?_eq_getElem (by rw [R3.len]; exact hton)⟩
            have htk : mv.take (j + 1) = mv.take j ++ [(to, cost, u)] := by rw [List.take_add_one, hto]; rfl
            have hkl : k1.length ≤ 4000 := Nat.le_trans (nodup_below sts.length k1 hkn fun x hx => (hks3 x hx).1) hfew
            have nGp : G ≠ p := hP3.ne hG3 (fun _ z => nomatch z)
            have nFG : F ≠ G := ne_of hF3 hG3 (fun z => nomatch z)
            obtain ⟨xs3, hp3, al3⟩ := id hP3
            obtain ⟨vh, hvh, hvhr⟩ := al3.at hc
            obtain ⟨uh, rfl, huh⟩ := hvhr
            obtain ⟨vt, hvt, hvtr⟩ := al3.at hto1
            refine ⟨ua, _, rfl, SqT.of (e3.k hua), rfl, _, _, rfl, _, _, rfl, _, _, rfl, rfl, ?_⟩
            -- pair
            refine ⟨_, rfl, _, rfl, p, _, _, _, rfl, rfl, SqL.of hp3, atI_nat hvh, uh, _, _, _, rfl, rfl, SqT.of huh, rfl, _, rfl, _, _, rfl, rfl, _, rfl, _, rfl, p, _, _, _, rfl, rfl, SqL.of hp3, atI_nat hvh, uh, _, _, _, rfl, rfl, SqT.of huh, rfl, by show 2 ≤ sizeLine; decide, fun X hX => ?_⟩
            rw [← pL_add N c cost]
            have fX := Fe.new (o := .tup ((pL N (c + cost * (N + 1))).map V.int)) hX
            have e4 := e3.trans fX
            have hP4 := hP3.f fX
            have hF4 := fX.k hF3
            have hG4 := fX.k hG3
            have hX4 : (upd H3 X (.tup ((pL N (c + cost * (N + 1))).map V.int))) X = some (.tup ((pL N (c + cost * (N + 1))).map V.int)) := upd_same
            have hp4 := fX.k hp3
            have al4 := Al.me fX al3
            have hvtr4 := Me.go hvtr fX
            clear hP3 hF3 hG3 hp3 al3 hvtr huh hvh e3
            generalize upd H3 X (.tup ((pL N (c + cost * (N + 1))).map V.int)) = H4 at e4 hP4 hF4 hG4 hX4 hp4 al4 hvtr4 ⊢
            have hXr : rO (rPr N) H4 (.ref X) (some (c + cost * (N + 1))) := ⟨X, rfl, hX4⟩
            refine ⟨_, rfl, _, rfl, p, _, _, _, rfl, rfl, SqL.of hp4, atI_nat hvt, _, rfl, N, vt, .ref X, oo, some (c + cost * (N + 1)), rfl, hvtr4, hXr, ?_⟩
            refine ⟨_, rfl, _, rfl, p, _, _, _, rfl, rfl, SqL.of hp4, atI_nat hvt, ?_⟩
            have fin : Bet oo (c + cost * (N + 1)) → CLIp N sf a p F G H sts.length S A M DD fs i h c (Phi (M + sts.length * DD) told) mv (j + 1) [some (.ref sf), some (.ref a), some (.ref p), some (.ref F), some (.ref G), some (vN h), some (vN to), some (vN cost), some x3, some (.ref X)]
                (upd (upd H4 p (.lst (xs3.set to (.ref X)))) G (.dK (putK (tks kN k1) (kN to) (.bl true)))) := by
              intro hb
              obtain ⟨R4, ph4⟩ := R3.put hc hSS (hDS _ _ _ hT) hto1 hb
              have hne : h ≠ to := by
                intro z
                subst z
                rw [hc] at hto1
                cases hto1
                exact absurd (hb c rfl) (by omega)
              have hRp := Rw.put hp4 al4 (to := to) hXr
              refine ⟨told1.set to (some (c + cost * (N + 1))), ins to k1, _, _, _, _, rfl, (e4.mut hp).mut (e.free hG), ?_, ?_, ?_, nd_ins hkn, R4, fun x hx => ⟨(hfs3 x hx).1, ?_⟩, fun x hx => ?_, ?_, fun h' t2 d2 z s => ?_, fun t2 d2 hm => ?_, by omega, fun _ => by omega⟩
              · obtain ⟨ys, hy1, hy2⟩ := hRp
                have fG : Fx [G] (upd H4 p (.lst (xs3.set to (.ref X)))) (upd (upd H4 p (.lst (xs3.set to (.ref X)))) G (.dK (putK (tks kN k1) (kN to) (.bl true)))) := Fx.put (u := .dK (tks kN k1)) (by rw [upd_ne nGp]; exact hG4) (List.mem_singleton.mpr rfl) (fun _ z => nomatch z)
                exact ⟨ys, by rw [upd_ne nGp.symm]; exact hy1, Al.mo fG hy2⟩
              · rw [upd_ne nFG, upd_ne nF]; exact hF4
              · rw [upd_same, tks_put kN kN_inj]
              · obtain ⟨c', hc'⟩ := (hfs3 x hx).2
                exact some_set hc'
              · rcases mem_ins.mp hx with rfl | hx
                · exact ⟨hton, c + cost * (N + 1), by rw [List.getElem?_set, if_pos rfl, if_pos (List.getElem?_eq_some_iff.mp hto1).1]⟩
                · obtain ⟨c', hc'⟩ := (hks3 x hx).2
                  exact ⟨(hks3 x hx).1, some_set hc'⟩
              · rw [List.getElem?_set, if_neg hne.symm]; exact hc
              · have n1 : h' ≠ to := fun q => z (.inr (.inl (mem_ins.mpr (.inl q))))
                exact Rx.put hto1 hb n1 (rx3 h' t2 d2 (fun q => z (q.elim .inl fun q => q.elim (fun q => .inr (.inl (mem_ins.mpr (.inr q)))) fun q => .inr (.inr q))) s)
              · rw [htk] at hm
                rcases List.mem_append.mp hm with hm | hm
                · exact Rx.put hto1 hb hne (hmj t2 d2 hm)
                · have q := List.mem_singleton.mp hm
                  injection q with q1 q2
                  injection q2 with q2 _
                  subst q1 q2
                  exact Rx.here hc hto1 hb
            have stay : ¬ Bet oo (c + cost * (N + 1)) → CLIp N sf a p F G H sts.length S A M DD fs i h c (Phi (M + sts.length * DD) told) mv (j + 1) [some (.ref sf), some (.ref a), some (.ref p), some (.ref F), some (.ref G), some (vN h), some (vN to), some (vN cost), some x3, some (.ref X)] H4 := by
              intro hb
              refine ⟨told1, k1, _, _, _, _, rfl, e4, hP4, hF4, hG4, hkn, R3, hfs3, hks3, hc, rx3, fun t2 d2 hm => ?_, ph1, ph2⟩
              rw [htk] at hm
              rcases List.mem_append.mp hm with hm | hm
              · exact hmj t2 d2 hm
              · have q := List.mem_singleton.mp hm
                injection q with q1 q2
                injection q2 with q2 _
                subst q1 q2
                exact Rx.well hc hto1 hb
            have sz : (tks kN k1).length + 1 ≤ sizeLine := by rw [tks_len, sizeLine_eq]; omega
            have hto2 : to < xs3.length := (List.getElem?_eq_some_iff.mp hvt).1
            have hG5 : (upd H4 p (.lst (xs3.set to (.ref X)))) G = some (.dK (tks kN k1)) := by rw [upd_ne nGp]; exact hG4
            by_cases hb : Bet oo (c + cost * (N + 1))
            · rw [takes_bet hb]
              refine ⟨pD N (some (c + cost * (N + 1))), pD N oo, dp_pr hXr, dp_pr hvtr4, sh_pr _ _, sh_pr _ _, _, rfl, ?_⟩
              rw [eqv_pr, decide_eq_false (bet_ne hb)]
              refine iteT ?_
              refine ⟨_, rfl, _, rfl, _, rfl, p, _, _, _, rfl, rfl, hp4, ixn hto2, ?_⟩
              exact ⟨_, rfl, _, rfl, G, _, rfl, DPut.k (k := kN to) hG5 sz, fin hb⟩
            · rw [takes_not hb hvtr4]
              refine ⟨pD N oo, pD N oo, dp_pr hvtr4, dp_pr hvtr4, sh_pr _ _, sh_pr _ _, _, rfl, ?_⟩
              rw [eqv_pr, decide_eq_true rfl]
              exact iteF (stay hb)
          · rintro σ' H3 ⟨told1, k1, o6, o7, o8, o9, rfl, e3, hP3, hF3, hG3, hkn, R3, hfs3, hks3, hc, rx3, hmj, ph1, ph2⟩
            refine ⟨told1, k1, _, _, _, _, _, rfl, e3, hP3, hF3, hG3, hkn, R3, hfs3, hks3, fun h' to d z s => ?_, ph1, ph2⟩
            rw [hal.len, List.take_length] at hmj
            by_cases q : h' = h
            · subst q
              rw [← hS] at s
              obtain ⟨d0, s, rfl⟩ := s
              exact hmj to d0 ((hmv to d0).mpr s)
            · exact rx3 h' to d (fun z' => z (z'.elim .inl fun z' => z'.elim .inr fun z' => absurd z' q)) s
        · rintro σ' H2 ⟨told', ks, o5, o6, o7, o8, o9, rfl, e2, hP2, hF2, hG2, hkn, R2, hfs2, hks2, rx2, ph1, ph2⟩
          refine ⟨_, rfl, G, _, rfl, .inl hG2, fun F2 hF2n => ?_⟩
          have eF2 : Fe H2 (upd H2 F2 (.lst ((tks kN ks).map fun kv => kV kv.1))) := Fe.new hF2n
          have nF2 : p ≠ F2 := by
            obtain ⟨ys, hy, _⟩ := hP2
            exact ne_of_none hy hF2n
          refine ⟨_, ?_, told', ks, F2, _, _, _, _, _, _, rfl, e2.trans eF2, nF2.symm, hP2.f eF2, ?_, R2, hks2, fun h to d z s => rx2 h to d (fun z' => z'.elim (fun z2 => ?_) z) s, rfl⟩
          · by_cases z : ks = []
            · rw [if_pos z]; omega
            · rw [if_neg z]; have := ph2 z; omega
          · rw [upd_same]
            refine congrArg some (congrArg HO.lst ?_)
            unfold tks
            rw [List.map_map]; rfl
          · rw [List.length_map, List.drop_length] at z2
            exact nomatch z2
end
end Fm
namespace Fm
open PySem L2
theorem set_self {α : Type} : ∀ {l : List α} {i : Nat} {x : α}, l[i]? = some x → l.set i x = l
  | [], i, x, h => by cases i <;> cases h
  | a :: l, 0, x, h => by cases h; rfl
  | a :: l, i + 1, x, h => by rw [List.set_cons_succ, set_self (l := l) h]
theorem nxp_congr {N : Nat} {b : Book} {m : Mach} {sts : List Stg} {n : Nat} {A : Nat → Nat → Prop} {x : Nat} {row : CRow} (h : LRow n A row) {told : CRow} (L : LRow n (Bh (ScN N (Told b m sts (some x))) fun h c => row[h]? = some (some c)) told) : LRow n (Bh (ScN N (Told b m sts (some x))) A) told :=
  L.imp (fun to c ⟨h0, c0, d, h1, h2, h3⟩ => ⟨h0, c0, d, h.snd h0 c0 h1, h2, h3⟩) (fun to c ⟨h0, c0, d, h1, h2, h3⟩ => by
    obtain ⟨c', h4, h5⟩ := h.low h0 c0 h1
    exact ⟨c' + d, ⟨h0, c', d, h4, h2, rfl⟩, by omega⟩)
def EndS (m : Mach) (s : Stg) : Prop := s.2 = [] ∧ s.1 ∈ m.2.1
instance (m : Mach) (s : Stg) : Decidable (EndS m s) := inferInstanceAs (Decidable (_ ∧ _))
def endH (m : Mach) (sts : List Stg) (i : Nat) : List Nat := (List.range i).filter fun h => match sts[h]? with
  | some s => decide (EndS m s)
  | none => false
theorem endH_succ {m : Mach} {sts : List Stg} {i : Nat} {s : Stg} (h : sts[i]? = some s) : endH m sts (i + 1) = endH m sts i ++ (if EndS m s then [i] else []) := by
  unfold endH
  rw [List.range_succ, List.filter_append]
  refine congrArg (fun z => List.filter _ (List.range i) ++ z) ?_
  rw [List.filter_cons, h]
  by_cases q : EndS m s
  · rw [if_pos (decide_eq_true q), if_pos q]; rfl
  · rw [if_neg (fun z => q (of_decide_eq_true z)), if_neg q]; rfl
theorem endH_mem {m : Mach} {sts : List Stg} {h : Nat} : h ∈ endH m sts sts.length ↔ ∃ s, sts[h]? = some s ∧ EndS m s := by
  unfold endH
  rw [List.mem_filter, List.mem_range]
  constructor
  · rintro ⟨h1, h2⟩
    rw [List.getElem?_eq_getElem h1] at h2
    exact ⟨_, List.getElem?_eq_getElem h1, of_decide_eq_true h2⟩
  · rintro ⟨s, h1, h2⟩
    refine ⟨(List.getElem?_eq_some_iff.mp h1).1, ?_⟩
    rw [h1]
    exact decide_eq_true h2
theorem endH_len (m : Mach) (sts : List Stg) (i : Nat) : (endH m sts i).length ≤ i := by
  unfold endH
  exact Nat.le_trans (List.length_filter_le _ _) (by rw [List.length_range]; exact Nat.le_refl _)
def spIsEnd (C : Addr) : Sp := fun vs H Q _ => ∃ (b : Book) (m : Mach) (sts : List Stg) (sf : Addr) (h : Nat) (s : Stg), vs = [.ref sf, vN h] ∧ Wb C b m sts H sf ∧ Std b m sts ∧ sts[h]? = some s ∧ Q (.bl (decide (EndS m s))) H
def spEnds (C : Addr) : Sp := fun vs H Q _ => ∃ (b : Book) (m : Mach) (sts : List Stg) (sf : Addr), vs = [.ref sf] ∧ Wb C b m sts H sf ∧ Std b m sts ∧ ∀ (p : Addr) (H' : Hp), Fe H H' → H p = none → H' p = some (.lst ((endH m sts sts.length).map vN)) → Q (.ref p) H'
section
variable {P : Program} {w : World} {K : PySem.W.Frag} {g : Str → Option Value} {base : Heap}
theorem ok_pairs_behind (T : Txt K g) : FnOk P w K g base CX0 2 T.d_pairs_behind.f T.d_pairs_behind.fd P_pairs_behind (spBehindP T.c_MoveWeb) := by
  refine T.d_pairs_behind.F.ok sc_pairs_behind (fun vs H Q E h => ?_) (fun cdv A outer s H vs Q E hr h => ?_)
  · obtain ⟨_, _, _, _, _, _, _, _, _, rfl, _⟩ := h
    rfl
  · obtain ⟨N, b, m, sts, sf, v, row, B, x, rfl, hw, sd, hrow, hA, hx, kk⟩ := h
    have hu := hu_of hr
    refine ⟨_, (pss_cons (ps_set (i := 3) sc_pairs_behind.nd rfl (by first | exact Or.inl rfl | exact Or.inr rfl) (pe_op op_rep (pe_lst (pa_cons pe_non pa_nil)) (pe_callB (kc_len (K := K) rfl) (by rfl) T.z_len PySem.boot_len (pa_cons (pv 1) pa_nil))))
    (pss_cons (ps_for PassesOwn.never rfl (ki_enum (K := K) rfl rfl T.z_enumerate (pa_cons (pv 1) pa_nil)) (kg_tup (K := K) 2 rfl rfl (pgs_cons (pg_name (i := 4) sc_pairs_behind.nd rfl (by first | exact Or.inl rfl | exact Or.inr rfl)) (pgs_cons (pg_name (i := 5) sc_pairs_behind.nd rfl (by first | exact Or.inl rfl | exact Or.inr rfl)) pgs_nil)))
      (pss_one (ps_if (pt_cmpR op_notN (pv 5) pe_non (nomark _))
        (pss_one (ps_for PassesOwn.never rfl (ki_list (K := K) rfl (pe_ix (kx_list (K := K) rfl) (pe_dget hu (ke_fld (K := K) rfl (pv 0) rfl) (pv 2) (fun _ _ => rfl)) (pv 4) (fun _ _ => rfl))) (kg_tup (K := K) 3 rfl rfl (pgs_cons (pg_name (i := 6) sc_pairs_behind.nd rfl (by first | exact Or.inl rfl | exact Or.inr rfl)) (pgs_cons (pg_name (i := 7) sc_pairs_behind.nd rfl (by first | exact Or.inl rfl | exact Or.inr rfl)) (pgs_cons (pg_name (i := 8) sc_pairs_behind.nd rfl (by first | exact Or.inl rfl | exact Or.inr rfl)) pgs_nil))))
          (pss_one (ps_asg (pe_call (ok_better T) (hr.mono (by decide)) rfl T.d_better.mg T.d_better.kp T.d_better.b .nil pass0 (pa_cons (pe_ix (kx_list (K := K) rfl) (pv 3) (pv 6) (fun _ _ => rfl)) (pa_cons (pe_tup (pa_cons (pe_op op_add (pe_ix (kx_tup (K := K) rfl) (pv 5) pe_int (fun _ _ => rfl)) (pv 7)) (pa_cons (pe_ix (kx_tup (K := K) rfl) (pv 5) pe_int (fun _ _ => rfl)) pa_nil))) pa_nil))) (pg_sub (pv 3) (pv 6) set_list)))))
        pss_nil)))
    (pss_one (ps_ret (pv 3))))), ?_⟩
    obtain ⟨H0, L, dx, vb, vm, as, ss, ah, rd, W, Rww⟩ := id hw
    obtain ⟨p0, hp0, hins⟩ := W.ins
    have hfew := sd.few
    obtain ⟨a, xs, rfl, ha, hxs⟩ := id hrow
    have hlen := hA.len
    have hxl := hxs.len
    refine ⟨by show 1 ≤ sizeLine; decide, fun p1 hp1 => ?_⟩
    have f1 : Fe H (upd H p1 (.lst [V.non])) := Fe.new hp1
    refine ⟨_, rfl, a, _, rfl, .inl (SqL.of (f1.k ha)), p1, _, _, rfl, rfl, upd_same, by omega, by omega, by rw [sizeLine_eq]; simp only [List.length_singleton]; omega, fun p hp => ?_⟩
    have en : (List.replicate ((xs.length : Nat) : Int).toNat [V.non]).flatten = (List.replicate sts.length none : CRow).map oV := by
      rw [rep_oV, Int.toNat_natCast, hxl, hlen]
    rw [en]
    have f2 := f1.trans (Fe.new (o := .lst ((List.replicate sts.length none : CRow).map oV)) hp)
    have hpn : H p = none := f1.free hp
    obtain ⟨jj, hjj⟩ := List.mem_iff_getElem?.mp hx
    have hkj : (keysOf b)[jj + 1]? = some (some x) := by
      show (b.1.map some)[jj]? = _
      rw [List.getElem?_map, hjj]; rfl
    have hnone : ∀ (H' : Hp) (n : Nat), Al (rO (rPr N)) H' ((List.replicate n none : CRow).map oV) (List.replicate n none) := by
      intro H' n
      induction n with
      | zero => exact .nil
      | succ n ih => exact .cons rfl ih
    refine ⟨_, rfl, a, _, rfl, SqL.of (f2.k ha), for_enum (xs := xs) (fun i σ' H' => ∃ (told : CRow) (o4 o5 o6 o7 o8 : Option V), σ' = [some (.ref sf), some (.ref a), some (.str ⟨#[x]⟩), some (.ref p), o4, o5, o6, o7, o8] ∧ Fe H H' ∧ Rw N H' p told ∧
      LRow sts.length (Bh (ScN N (Told b m sts (some x))) fun h c => h < i ∧ row[h]? = some (some c)) told)
      ⟨_, _, _, _, _, _, rfl, f2, ⟨_, upd_same, hnone _ _⟩, (LRow.nothing sts.length).imp (fun _ _ z => z.elim) (fun _ _ ⟨_, _, _, z, _⟩ => absurd z.1 (by omega))⟩ (fun i σ' H' _ ⟨_, _, _, _, _, _, _, e, _⟩ => e.k ha) ?_ ?_⟩
    · rintro i y σ' H' U hy ⟨told, o4, o5, o6, o7, o8, rfl, e, hP, R⟩ hU
      obtain ⟨o, hri, hyr⟩ := (Al.me e hxs).get hy
      have hi : i < row.length := (List.getElem?_eq_some_iff.mp hri).1
      have fU : Fe H' (upd H' U (.tup [.int (i : Int), y])) := Fe.new hU
      have e2 := e.trans fU
      have hP2 := hP.f fU
      have hyr2 := Me.go hyr fU
      refine ⟨U, _, rfl, SqT.of upd_same, rfl, _, _, rfl, _, _, rfl, rfl, ?_⟩
      clear fU hyr
      generalize upd H' U (.tup [.int (i : Int), y]) = H2 at e2 hP2 hyr2 ⊢
      cases o with
      | none =>
        have hy0 : y = .non := hyr2
        subst hy0
        refine ⟨_, rfl, rfl, _, rfl, iteF ⟨told, _, _, _, _, _, rfl, e2, hP2, R.imp (fun to c ⟨h0, c0, d, h1, h2, h3⟩ => ⟨h0, c0, d, ⟨by omega, h1.2⟩, h2, h3⟩) (fun to c ⟨h0, c0, d, h1, h2, h3⟩ => ⟨c, ⟨h0, c0, d, ⟨?_, h1.2⟩, h2, h3⟩, Nat.le_refl _⟩)⟩⟩
        have : h0 ≠ i := fun z => by rw [z, hri] at h1; exact nomatch h1.2
        omega
      | some c0 =>
        obtain ⟨uh, rfl, huh⟩ := hyr2
        refine ⟨_, rfl, rfl, _, rfl, iteT ?_⟩
        have hin : i < sts.length := by omega
        obtain ⟨d, q, ys, mv, hd, hd1, hq, hys, hal, hmv⟩ := Rww.here W.mats hkj hin
        have hd2' : ((L.map (·.1)).tail)[jj]? = some d.1 := by rw [List.getElem?_tail, List.getElem?_map, hd]; rfl
        refine ⟨_, rfl, sf, _, dx, _, _, rfl, e2.k hins, T.cl_MoveWeb, T.na_MoveWeb_reading, wfl_r, _, rfl, rd, .ref d.1, rfl, by rw [← rkvs_at sd.ok.ln hjj hd2']; exact DGet.k (k := kS [x]) (e2.k W.hr), _, rfl, d.1, _, _, .ref q, rfl, rfl, SqL.of (e2.k hd1), atI_nat (by rw [List.getElem?_map, hq]; rfl), q, rfl, ⟨_, SqL.of (e2.k hys)⟩,
          for_lst (xs := ys) (fun j σ' H' => ∃ (told : CRow) (o6 o7 o8 : Option V), σ' = [some (.ref sf), some (.ref a), some (.str ⟨#[x]⟩), some (.ref p), some (vN i), some (.ref uh), o6, o7, o8] ∧ Fe H H' ∧ Rw N H' p told ∧ H' uh = some (.tup ((pL N c0).map V.int)) ∧
            LRow sts.length (fun to c => Bh (ScN N (Told b m sts (some x))) (fun h c => h < i ∧ row[h]? = some (some c)) to c ∨ ∃ d, (to, d, ()) ∈ mv.take j ∧ c = c0 + d * (N + 1)) told)
            ⟨told, _, _, _, rfl, e2, hP2, huh, R.imp (fun _ _ => .inl) (fun to c z => by
              rcases z with z | ⟨_, z, _⟩
              · exact ⟨c, z, Nat.le_refl _⟩
              · exact nomatch z)⟩ (fun j σ' H2 _ ⟨_, _, _, _, _, e, _⟩ => e.k hys) ?_ ?_⟩
        · clear e2 hP2 hP R e huh
          rintro j y σ' H3 hy ⟨told, o6, o7, o8, rfl, e, hP, huh, R⟩
          obtain ⟨⟨to, cost, u⟩, hto, hxr⟩ := hal.get hy
          obtain ⟨ua, x1, x2, x3, rfl, hua, rfl, rfl, _⟩ := id hxr
          have hS : Told b m sts (some x) i to cost := (hmv to cost).mp (List.mem_of_getElem? hto)
          have hton := (told_lt hS).2
          obtain ⟨oo, hto1⟩ : ∃ oo, told[to]? = some oo := ⟨told[to]'(by rw [R.len]; exact hton), List.getElem?_eq_getElem (by rw [R.len]; exact hton)⟩
          have htk : mv.take (j + 1) = mv.take j ++ [(to, cost, u)] := by rw [List.take_add_one, hto]; rfl
          have cong : ∀ told' : CRow, LRow sts.length (fun h c => (Bh (ScN N (Told b m sts (some x))) (fun h c => h < i ∧ row[h]? = some (some c)) h c ∨ ∃ d, (h, d, ()) ∈ mv.take j ∧ c = c0 + d * (N + 1)) ∨ (h = to ∧ c = c0 + cost * (N + 1))) told' →
              LRow sts.length (fun to c => Bh (ScN N (Told b m sts (some x))) (fun h c => h < i ∧ row[h]? = some (some c)) to c ∨ ∃ d, (to, d, ()) ∈ mv.take (j + 1) ∧ c = c0 + d * (N + 1)) told' := fun told' R' => by
            rw [htk]
            refine R'.imp ?_ ?_
            · rintro h c ((z | ⟨d, z1, z2⟩) | ⟨rfl, rfl⟩)
              · exact .inl z
              · exact .inr ⟨d, List.mem_append_left _ z1, z2⟩
              · exact .inr ⟨cost, List.mem_append_right _ (List.mem_singleton.mpr rfl), rfl⟩
            · rintro h c (z | ⟨d, z1, z2⟩)
              · exact ⟨c, .inl (.inl z), Nat.le_refl _⟩
              · rcases List.mem_append.mp z1 with z1 | z1
                · exact ⟨c, .inl (.inr ⟨d, z1, z2⟩), Nat.le_refl _⟩
                · have q := List.mem_singleton.mp z1
                  injection q with q1 q2
                  injection q2 with q2 _
                  subst q1 q2
                  exact ⟨c, .inr ⟨rfl, z2⟩, Nat.le_refl _⟩
          obtain ⟨xs3, hp3, al3⟩ := id hP
          obtain ⟨vt, hvt, hvtr⟩ := al3.at hto1
          have hto2 : to < xs3.length := (List.getElem?_eq_some_iff.mp hvt).1
          refine ⟨ua, _, rfl, SqT.of (e.k hua), rfl, _, _, rfl, _, _, rfl, _, _, rfl, rfl, ?_⟩
          refine ⟨_, rfl, _, rfl, p, _, _, _, rfl, rfl, SqL.of hp3, atI_nat hvt, _, rfl, uh, _, _, _, rfl, rfl, SqT.of huh, rfl, _, rfl, _, _, rfl, rfl, _, rfl, uh, _, _, _, rfl, rfl, SqT.of huh, rfl, by show 2 ≤ sizeLine; decide, fun X hX => ?_⟩
          rw [← pL_add N c0 cost]
          have fX := Fe.new (o := .tup ((pL N (c0 + cost * (N + 1))).map V.int)) hX
          have e4 := e.trans fX
          have huh4 := fX.k huh
          have hX4 : (upd H3 X (.tup ((pL N (c0 + cost * (N + 1))).map V.int))) X = some (.tup ((pL N (c0 + cost * (N + 1))).map V.int)) := upd_same
          have hp4 := fX.k hp3
          have al4 := Al.me fX al3
          have hvtr4 := Me.go hvtr fX
          clear hP hp3 al3 hvtr huh e
          generalize upd H3 X (.tup ((pL N (c0 + cost * (N + 1))).map V.int)) = H4 at e4 huh4 hX4 hp4 al4 hvtr4 ⊢
          have hXr : rO (rPr N) H4 (.ref X) (some (c0 + cost * (N + 1))) := ⟨X, rfl, hX4⟩
          refine ⟨N, vt, .ref X, oo, some (c0 + cost * (N + 1)), rfl, hvtr4, hXr, ?_⟩
          have nup : uh ≠ p := fun z => by rw [z, hp4] at huh4; cases huh4
          refine ⟨_, rfl, _, rfl, p, _, _, _, rfl, rfl, hp4, ixn hto2, ?_⟩
          by_cases hb : Bet oo (c0 + cost * (N + 1))
          · rw [takes_bet hb]
            exact ⟨_, _, _, _, rfl, e4.mut hpn, Rw.put hp4 al4 hXr, by rw [upd_ne nup]; exact huh4, cong _ (R.put hto1 hb)⟩
          · rw [takes_not hb hvtr4]
            refine ⟨_, _, _, _, rfl, e4.mut hpn, Rw.put hp4 al4 hvtr4, by rw [upd_ne nup]; exact huh4, ?_⟩
            rw [set_self hto1]
            exact cong _ (R.keep hto1 hb)
        · rintro σ' H3 ⟨told, o6, o7, o8, rfl, e, hP, huh, R⟩
          refine ⟨told, _, _, _, _, _, rfl, e, hP, ?_⟩
          rw [hal.len, List.take_length] at R
          refine R.imp ?_ ?_
          · rintro to c (⟨h0, c1, d, h1, h2, h3⟩ | ⟨d, h1, h2⟩)
            · exact ⟨h0, c1, d, ⟨by omega, h1.2⟩, h2, h3⟩
            · exact ⟨i, c0, d * (N + 1), ⟨by omega, hri⟩, ⟨d, (hmv to d).mp h1, rfl⟩, h2⟩
          · rintro to c ⟨h0, c1, d, h1, h2, h3⟩
            refine ⟨c, ?_, Nat.le_refl _⟩
            by_cases z : h0 = i
            · subst z
              rw [hri] at h1
              cases h1.2
              obtain ⟨d0, h2, rfl⟩ := h2
              exact .inr ⟨d0, (hmv to d0).mpr h2, h3⟩
            · exact .inl ⟨h0, c1, d, ⟨by omega, h1.2⟩, h2, h3⟩
    · rintro σ' H' ⟨told, o4, o5, o6, o7, o8, rfl, e, hP, R⟩
      refine ⟨_, rfl, kk p H' told e hpn hP (nxp_congr hA ?_)⟩
      refine R.imp (fun to c ⟨h0, c0, d, h1, h2, h3⟩ => ⟨h0, c0, d, h1.2, h2, h3⟩) (fun to c ⟨h0, c0, d, h1, h2, h3⟩ => ⟨c, ⟨h0, c0, d, ⟨?_, h1⟩, h2, h3⟩, Nat.le_refl _⟩)
      have := (List.getElem?_eq_some_iff.mp h1).1
      omega
theorem ok_MoveWeb_is_end (T : Txt K g) : FnOk P w K g base CX0 1 T.d_MoveWeb_is_end.f T.d_MoveWeb_is_end.fd P_MoveWeb_is_end (spIsEnd T.c_MoveWeb) := by
  refine T.d_MoveWeb_is_end.F.ok sc_MoveWeb_is_end (fun vs H Q E h => ?_) (fun cdv A outer s H vs Q E hr h => ?_)
  · obtain ⟨_, _, _, _, _, _, rfl, _⟩ := h
    rfl
  · obtain ⟨b, m, sts, sf, h, s0, rfl, hw, sd, hs, kk⟩ := h
    have hu := hu_of hr
    refine ⟨_, (pss_cons (ps_asg (pe_ix (kx_list (K := K) rfl) (ke_fld (K := K) rfl (pv 0) rfl) (pv 1) (fun _ _ => rfl)) (kg_tup (K := K) 2 rfl rfl (pgs_cons (pg_name (i := 2) sc_MoveWeb_is_end.nd rfl (by first | exact Or.inl rfl | exact Or.inr rfl)) (pgs_cons (pg_name (i := 3) sc_MoveWeb_is_end.nd rfl (by first | exact Or.inl rfl | exact Or.inr rfl)) pgs_nil))))
    (pss_one (ps_ret (pe_and (pe_cmpR op_eq (pv 3) pe_str (nomark _)) (pe_one (pe_cmpR (ko_in (K := K) rfl) (pv 2) (pe_ix (kx_tup (K := K) rfl) (ke_fld (K := K) rfl (pv 0) rfl) pe_int (fun _ _ => rfl)) (by rfl))))))), ?_⟩
    obtain ⟨H0, L, dx, vb, vm, as, ss, ah, rd, W, Rww⟩ := id hw
    obtain ⟨p0, hp0, hins⟩ := W.ins
    obtain ⟨x, hx, u, v1, v2, rfl, hu1, rfl, rfl⟩ := W.hx.at hs
    refine ⟨_, rfl, sf, _, dx, _, _, rfl, hins, T.cl_MoveWeb, T.na_MoveWeb_standings, wfl_s, _, rfl, as, _, _, .ref u, rfl, rfl, SqL.of W.hs, atI_nat hx, ?_⟩
    refine ⟨u, _, rfl, SqT.of hu1, rfl, _, _, rfl, _, _, rfl, rfl, ?_⟩
    refine ⟨_, rfl, rfl, _, rfl, ?_⟩
    obtain ⟨ma, vst, ven, vsp, rfl, hma, rfl, ⟨ea, es, rfl, hea, hes⟩, hsp⟩ := id W.hm
    have hen := hes.nats
    subst hen
    rw [str_nil]
    obtain ⟨q0, r0⟩ := s0
    cases r0 with
    | nil =>
      rw [decide_eq_true rfl]
      refine iteT ⟨_, rfl, _, rfl, sf, _, dx, _, _, rfl, hins, T.cl_MoveWeb, T.na_MoveWeb_machine, wfl_m, ma, _, _, _, rfl, rfl, SqT.of hma, rfl, ea, _, rfl, .inr (SqT.of hea), rfl, flat_nats _, ?_⟩
      have einv : (if false = true then !inV (vN q0) (m.2.1.map vN) else inV (vN q0) (m.2.1.map vN)) = decide (EndS m (q0, [])) := (inV_nats q0 _).trans (decide_eq_decide.mpr ⟨fun h => ⟨rfl, h⟩, fun h => h.2⟩)
      rw [← einv] at kk
      exact kk
    | cons x r =>
      rw [decide_eq_false (fun z => by injection z with z; exact nomatch str_inj z)]
      refine iteF ?_
      have : decide (EndS m (q0, x :: r)) = false := decide_eq_false fun z => nomatch z.1
      rw [this] at kk
      exact kk
theorem ok_MoveWeb_ends (T : Txt K g) : FnOk P w K g base CX0 2 T.d_MoveWeb_ends.f T.d_MoveWeb_ends.fd P_MoveWeb_ends (spEnds T.c_MoveWeb) := by
  refine T.d_MoveWeb_ends.F.ok sc_MoveWeb_ends (fun vs H Q E h => ?_) (fun cdv A outer s H vs Q E hr h => ?_)
  · obtain ⟨_, _, _, _, rfl, _⟩ := h
    rfl
  · obtain ⟨b, m, sts, sf, rfl, hw, sd, kk⟩ := h
    have hu := hu_of hr
    refine ⟨_, (pss_one (ps_ret (pe_lc (own := [("home", 1)]) rfl sc_MoveWeb_ends.nd (pi_range1 rfl T.z_range (pa_cons (pe_callB (kc_len (K := K) rfl) (by rfl) T.z_len PySem.boot_len (pa_cons (ke_fld (K := K) rfl (pv 0) rfl) pa_nil)) pa_nil)) (blkOk_by (N := N_MoveWeb_ends) (sc := defScope s_MoveWeb_ends) (by decide +kernel)) (fun _ _ _ _ _ => by exact (pg_name (i := 1) sc_MoveWeb_ends.nd rfl (by first | exact Or.inl rfl | exact Or.inr rfl))) (fun _ _ _ _ _ => by exact pts_one (pt_val (pe_meth (pv 0) T.cl_MoveWeb T.d_MoveWeb_is_end.m (ok_MoveWeb_is_end T) (hr.mono (by decide)) T.d_MoveWeb_is_end.b .nil pass0 (pa_cons (pv 1) pa_nil)))) (fun _ _ _ _ _ => by exact (pv 1))))), ?_⟩
    obtain ⟨H0, L, dx, vb, vm, as, ss, ah, rd, W, Rww⟩ := id hw
    obtain ⟨p0, hp0, hins⟩ := W.ins
    have hsl := W.hx.len
    have hfew := sd.few
    refine ⟨_, rfl, sf, _, dx, _, _, rfl, hins, T.cl_MoveWeb, T.na_MoveWeb_standings, wfl_s, as, ss, rfl, .inl (SqL.of W.hs), _, rfl, by omega, by omega, fun D hD => ?_⟩
    have hcn : ((ss.length : Nat) : Int).toNat = sts.length := by omega
    rw [hcn]
    refine lc_range (fun i H' => Cmp rN H D (endH m sts i) H') (Cmp.start hD) ?_ ?_
    · intro i H' hi c
      have hs1 : sts[i]? = some sts[i] := List.getElem?_eq_getElem hi
      have hw' := hw.f c.fe
      obtain ⟨dx5, vb5, vm5, as5, ah5, p05, rd5, ss5, hins5, _⟩ := hw'.ins
      rw [endH_succ hs1]
      have hel := endH_len m sts i
      refine ⟨rfl, _, rfl, sf, dx5, _, rfl, hins5, wfl_no (by decide +kernel) (by decide +kernel) (by decide +kernel) (by decide +kernel) (by decide +kernel) (by decide +kernel), _, rfl, b, m, sts, sf, i, sts[i], by rw [Int.zero_add]; rfl, hw', sd, hs1, _, rfl, ?_⟩
      by_cases q : EndS m sts[i]
      · rw [decide_eq_true q, if_pos q]
        exact iteT ⟨_, rfl, c.add (x := i) (by omega) (Fx.refl _ _) (show V.int _ = V.int _ by rw [Int.zero_add])⟩
      · rw [decide_eq_false q, if_neg q, List.append_nil]
        exact iteF c
    · intro H1 c
      obtain ⟨_, xs0, eF, hFx, hFl⟩ := c.rl
      cases eF
      have hfn := hFl.nats
      subst hfn
      exact kk D H1 c.fe hD hFx
end
end Fm
/-! sorted lists of triples of naturals -/
namespace Fm
open PySem PySem.Spec PyProof.Rows L2
abbrev T3 := Nat × Nat × Nat
abbrev r3 : Rp T3 := rP3 rN rN rN
def le3 (x y : T3) : Prop := x.1 < y.1 ∨ (x.1 = y.1 ∧ (x.2.1 < y.2.1 ∨ (x.2.1 = y.2.1 ∧ x.2.2 ≤ y.2.2)))
theorem le3_anti {x y : T3} (h : le3 x y) (k : le3 y x) : x = y := by
  obtain ⟨a, b, c⟩ := x
  obtain ⟨a', b', c'⟩ := y
  unfold le3 at h k
  simp only at h k
  have e1 : a = a' := by omega
  have e2 : b = b' := by omega
  have e3 : c = c' := by omega
  rw [e1, e2, e3]
theorem srt3_eq {l m : List T3} (h : l.Perm m) (a : l.Pairwise le3) (b : m.Pairwise le3) : l = m :=
  List.Perm.eq_of_pairwise (fun _ _ _ _ x y => le3_anti x y) a b h
theorem code3 (B x y z : Int) : TS.code B [x, y, z] = (x * B + y) * B + z := by
  show x * B ^ 2 + (y * B ^ 1 + (z * B ^ 0 + 0)) = _
  have e1 : B ^ 2 = B * B := by rw [show (2 : Nat) = 1 + 1 from rfl, Int.pow_succ, Int.pow_succ, Int.pow_zero, Int.one_mul]
  have e2 : B ^ 1 = B := by rw [Int.pow_succ, Int.pow_zero, Int.one_mul]
  rw [e1, e2, Int.pow_zero, Int.mul_one, Int.add_zero, Int.add_mul, Int.mul_assoc, Int.add_assoc]
theorem dig_lt {B p q r s : Int} (hr : 0 ≤ r) (hs : s < B) (h : p * B + r ≤ q * B + s) (hB : 0 < B) : p ≤ q := by
  apply Int.not_lt.mp
  intro z
  have h1 : (q + 1) * B ≤ p * B := Int.mul_le_mul_of_nonneg_right (by omega) (by omega)
  rw [Int.add_mul, Int.one_mul] at h1
  omega
theorem le3_code {B : Int} {x y : T3} (hx : (x.1 : Int) < B ∧ (x.2.1 : Int) < B ∧ (x.2.2 : Int) < B) (hy : (y.1 : Int) < B ∧ (y.2.1 : Int) < B ∧ (y.2.2 : Int) < B)
    (h : TS.code B [(x.1 : Int), (x.2.1 : Int), (x.2.2 : Int)] ≤ TS.code B [(y.1 : Int), (y.2.1 : Int), (y.2.2 : Int)]) : le3 x y := by
  obtain ⟨a, b, c⟩ := x
  obtain ⟨a', b', c'⟩ := y
  simp only at hx hy h
  rw [code3, code3] at h
  have hB : 0 < B := by omega
  have h1 := dig_lt (by omega) hy.2.2 h hB
  have h2 := dig_lt (by omega) hy.2.1 h1 hB
  unfold le3
  simp only
  by_cases e1 : a = a'
  · subst e1
    refine .inr ⟨rfl, ?_⟩
    by_cases e2 : b = b'
    · subst e2
      exact .inr ⟨rfl, by omega⟩
    · exact .inl (by omega)
  · exact .inl (by omega)
theorem al_perm {α : Type} {r : Rp α} {H : Hp} {xs ys : List V} (p : ys.Perm xs) : ∀ {l : List α}, Al r H xs l → ∃ l', l'.Perm l ∧ Al r H ys l' := by
  have q := p.symm
  clear p
  induction q with
  | nil => intro l h; cases h; exact ⟨[], .nil, .nil⟩
  | cons x _ ih =>
    intro l h
    cases h with
    | cons h t =>
      obtain ⟨l', p, a⟩ := ih t
      exact ⟨_ :: l', p.cons _, .cons h a⟩
  | swap x y l0 =>
    intro l h
    cases h with
    | cons h t =>
      cases t with
      | cons h2 t => exact ⟨_, .swap _ _ _, .cons h2 (.cons h t)⟩
  | trans _ _ i1 i2 =>
    intro l h
    obtain ⟨l1, p1, a1⟩ := i1 h
    obtain ⟨l2, p2, a2⟩ := i2 a1
    exact ⟨l2, p2.trans p1, a2⟩
theorem al_pw {α : Type} {r : Rp α} {H : Hp} {R : V → V → Prop} {S : α → α → Prop} (f : ∀ x y a b, r H x a → r H y b → R x y → S a b) : ∀ {xs : List V} {l : List α}, Al r H xs l → xs.Pairwise R → l.Pairwise S
  | _, _, .nil, _ => .nil
  | _, _, .cons h t, w => by
    obtain ⟨w1, w2⟩ := List.pairwise_cons.mp w
    refine List.pairwise_cons.mpr ⟨fun b hb => ?_, al_pw f t w2⟩
    obtain ⟨i, hi⟩ := List.mem_iff_getElem?.mp hb
    obtain ⟨y, hy, hr⟩ := Al.at t hi
    exact f _ _ _ _ h hr (w1 y (List.mem_of_getElem? hy))
theorem al_mem {α : Type} {r : Rp α} {H : Hp} {xs : List V} {l : List α} (h : Al r H xs l) {x : V} (m : x ∈ xs) : ∃ a ∈ l, r H x a := by
  obtain ⟨i, hi⟩ := List.mem_iff_getElem?.mp m
  obtain ⟨a, ha, hr⟩ := h.get hi
  exact ⟨a, List.mem_of_getElem? ha, hr⟩
section
variable {K : PySem.W.Frag}
theorem tupI_r3 {H : Hp} {x : V} {a : T3} (h : r3 H x a) : TupI K H x [(a.1 : Int), (a.2.1 : Int), (a.2.2 : Int)] := by
  obtain ⟨u, x1, x2, x3, rfl, hu, rfl, rfl, rfl⟩ := h
  exact ⟨u, rfl, SqT.of hu⟩
theorem t3_max (l : List T3) : ∃ B : Nat, ∀ x ∈ l, x.1 < B ∧ x.2.1 < B ∧ x.2.2 < B := by
  induction l with
  | nil => exact ⟨0, fun _ h => nomatch h⟩
  | cons a l ih =>
    obtain ⟨B, hB⟩ := ih
    refine ⟨B + a.1 + a.2.1 + a.2.2 + 1, fun x h => ?_⟩
    rcases List.mem_cons.mp h with rfl | h
    · omega
    · have := hB x h; omega
theorem sort3_by {a : Addr} {xs : List V} {l : List T3} {H : Hp} {Q : VK} (ha : SqL K H a xs) (al : Al r3 H xs l) (h64 : l.length < 64)
    (k : ∀ (ys : List V) (l' : List T3) (p : Addr), Al r3 H ys l' → l'.Perm l → l'.Pairwise le3 → H p = none → Q (.ref p) (upd H p (.lst ys))) : rSort3 K [.ref a] H Q := by
  obtain ⟨B, hB⟩ := t3_max l
  have bd : ∀ {x : V} {t : T3}, r3 H x t → t ∈ l → TupI K H x [(t.1 : Int), (t.2.1 : Int), (t.2.2 : Int)] ∧ TS.Bd (B : Int) [(t.1 : Int), (t.2.1 : Int), (t.2.2 : Int)] := by
    intro x t h m
    have := hB t m
    refine ⟨tupI_r3 h, fun n hn => ?_⟩
    simp only [List.mem_cons, List.not_mem_nil, or_false] at hn
    rcases hn with rfl | rfl | rfl <;> omega
  refine ⟨B, a, xs, rfl, ha, by rw [al.len]; exact h64, fun x hx => ?_, fun ys p pm pw hp => ?_⟩
  · obtain ⟨t, ht, hr⟩ := al_mem al hx
    exact ⟨_, (bd hr ht).1, rfl, (bd hr ht).2⟩
  · obtain ⟨l', p1, a1⟩ := al_perm pm al
    refine k ys l' p a1 p1 ?_ hp
    have key : ∀ {xs : List V} {m : List T3}, Al r3 H xs m → (∀ t ∈ m, t ∈ l) → xs.Pairwise (fun x y => ∀ n m, TupI K H x n → TupI K H y m → TS.code B n ≤ TS.code B m) → m.Pairwise le3 := by
      intro xs m h
      induction h with
      | nil => exact fun _ _ => .nil
      | @cons x t xs m h1 h2 ih =>
        intro hm w
        obtain ⟨w1, w2⟩ := List.pairwise_cons.mp w
        refine List.pairwise_cons.mpr ⟨fun b hb => ?_, ih (fun t ht => hm t (List.mem_cons_of_mem _ ht)) w2⟩
        obtain ⟨i, hi⟩ := List.mem_iff_getElem?.mp hb
        obtain ⟨y, hy, hr⟩ := Al.at h2 hi
        have q1 := hB t (hm t List.mem_cons_self)
        have q2 := hB b (hm b (List.mem_cons_of_mem _ hb))
        exact le3_code (B := B) ⟨by omega, by omega, by omega⟩ ⟨by omega, by omega, by omega⟩ (w1 y (List.mem_of_getElem? hy) _ _ (tupI_r3 h1) (tupI_r3 hr))
    exact key a1 (fun t ht => p1.mem_iff.mp ht) pw
end
end Fm
namespace Fm
open PySem L2
/-- what is paid to a standing behind the text t -/
inductive Rs (b : Book) (m : Mach) : List Nat → Stg → Nat → Prop
  | beg : Rs b m [] (0, []) 0
  | sil {t : List Nat} {s s' : Stg} {c d : Nat} : Rs b m t s c → Sil b m s s' d → Rs b m t s' (c + d)
  | rea {t : List Nat} {s s' : Stg} {c d x : Nat} : Rs b m t s c → Rea b m x s s' d → Rs b m (t ++ [x]) s' (c + d)
/-- a standing that there is -/
def StOk (b : Book) (m : Mach) (s : Stg) : Prop := s.1 < m.1 ∧ Rest b s.2
theorem rest_tail {b : Book} {x : Nat} {r : List Nat} (h : Rest b (x :: r)) : Rest b r := by
  rcases h with h | ⟨e, k, h1, h2, h3, h4⟩
  · cases h
  · by_cases q : k + 1 < e.1.length
    · refine .inr ⟨e, k + 1, h1, by omega, q, ?_⟩
      have := congrArg List.tail h4
      rw [List.tail_drop] at this
      exact this
    · have hl := congrArg List.length h4
      rw [List.length_drop, List.length_cons] at hl
      have : r.length = 0 := by omega
      exact .inl (List.eq_nil_of_length_eq_zero this)
theorem rest_edit {b : Book} {x c : Nat} {rd wr : List Nat} (h : ((x :: rd, wr, c) : List Nat × List Nat × Nat) ∈ b.2) : Rest b rd := by
  cases rd with
  | nil => exact .inl rfl
  | cons y r => exact .inr ⟨_, 1, h, Nat.le_refl _, by simp, rfl⟩
theorem mv_stok {b : Book} {m : Mach} (ok : MOk m) {k : Option Nat} {s s' : Stg} {c : Nat} (h : StOk b m s) (mv : Mv b m k s s' c) : StOk b m s' := by
  cases k with
  | none =>
    obtain ⟨_, h2, wr, h3, h4⟩ := mv
    exact ⟨lead_em_lt ok h.1 h4, .inl h2⟩
  | some x =>
    rcases mv with ⟨r, h1, rfl, _⟩ | ⟨_, h2, h3, _⟩ | ⟨_, rd, wr, h2, h3, h4⟩
    · refine ⟨h.1, rest_tail (x := x) ?_⟩
      rw [← h1]; exact h.2
    · exact ⟨(ok.st _ h3).2, .inl h2⟩
    · exact ⟨lead_em_lt ok h.1 h4, h3 ▸ rest_edit h2⟩
theorem rs_stok {b : Book} {m : Mach} (ok : MOk m) {t : List Nat} {s : Stg} {c : Nat} (h : Rs b m t s c) : StOk b m s := by
  induction h with
  | beg => exact ⟨ok.pos, .inl rfl⟩
  | sil _ mv ih => exact mv_stok ok (k := none) ih mv
  | rea _ mv ih => exact mv_stok ok (k := some _) ih mv
theorem Rc.snoc (b : Book) (m : Mach) (sts : List Stg) (t : List Nat) (x : Nat) : Rc b m sts (t ++ [x]) = nxt b m sts (Rc b m sts t) x := by
  unfold Rc
  rw [List.foldl_append]; rfl
theorem told_at {b : Book} {m : Mach} {sts : List Stg} (o : SOk b m sts) {k : Option Nat} {h to c : Nat} {s : Stg} (e : sts[h]? = some s) : Told b m sts k h to c ↔ ∃ s', sts[to]? = some s' ∧ Mv b m k s s' c := by
  constructor
  · rintro ⟨s1, s', h1, h2, h3⟩
    rw [e] at h1; cases h1
    exact ⟨s', h2, h3⟩
  · rintro ⟨s', h2, h3⟩
    exact ⟨s, s', e, h2, h3⟩
theorem rc_rs {b : Book} {m : Mach} {sts : List Stg} (o : SOk b m sts) (t : List Nat) (h c : Nat) : Rc b m sts t h c ↔ ∃ s, sts[h]? = some s ∧ Rs b m t s c := by
  constructor
  · revert h c
    have cl : ∀ (t : List Nat) (A : Nat → Nat → Prop), (∀ h c, A h c → ∃ s, sts[h]? = some s ∧ Rs b m t s c) → ∀ h c, Cl (Told b m sts none) A h c → ∃ s, sts[h]? = some s ∧ Rs b m t s c := by
      intro t A hA h c z
      induction z with
      | beg z => exact hA _ _ z
      | step _ mv ih =>
        obtain ⟨s, h1, h2⟩ := ih
        obtain ⟨s', h3, h4⟩ := (told_at o h1).mp mv
        exact ⟨s', h3, h2.sil h4⟩
    have main : ∀ (n : Nat) (t : List Nat), t.length = n → ∀ h c, Rc b m sts t h c → ∃ s, sts[h]? = some s ∧ Rs b m t s c := by
      intro n
      induction n with
      | zero =>
        intro t ht
        cases List.eq_nil_of_length_eq_zero ht
        exact cl [] _ fun h c ⟨h1, h2⟩ => ⟨_, h1, by subst h2; exact .beg⟩
      | succ n ih =>
        intro t ht
        have hne : t ≠ [] := fun z => by rw [z] at ht; cases ht
        have e := List.dropLast_concat_getLast hne
        rw [← e, Rc.snoc]
        have hl : t.dropLast.length = n := by rw [List.length_dropLast]; omega
        refine cl _ _ fun to c ⟨h0, c0, d, h1, h2, h3⟩ => ?_
        obtain ⟨s, h4, h5⟩ := ih _ hl _ _ h1
        obtain ⟨s', h6, h7⟩ := (told_at o h4).mp h2
        subst h3
        exact ⟨s', h6, h5.rea h7⟩
    exact fun h c => main _ t rfl h c
  · rintro ⟨s, hs, r⟩
    have clr : ∀ {t : List Nat} {h to d c : Nat}, Rc b m sts t h c → Told b m sts none h to d → Rc b m sts t to (c + d) := by
      intro t h to d c z mv
      rcases List.eq_nil_or_concat t with rfl | ⟨t0, x, rfl⟩
      · exact Cl.step z mv
      · rw [List.concat_eq_append] at z ⊢
        rw [Rc.snoc] at z ⊢
        exact Cl.step z mv
    induction r generalizing h with
    | beg => exact .beg ⟨hs, rfl⟩
    | @sil t s s' c d r mv ih =>
      have q := rs_stok o.mo r
      obtain ⟨i, hi⟩ := o.idx q.1 q.2
      exact clr (ih i hi) ((told_at o hi).mpr ⟨_, hs, mv⟩)
    | @rea t s s' c d x r mv ih =>
      have q := rs_stok o.mo r
      obtain ⟨i, hi⟩ := o.idx q.1 q.2
      rw [Rc.snoc]
      exact .beg ⟨i, c, d, ih i hi, (told_at o hi).mpr ⟨_, hs, mv⟩, rfl⟩
/-- what may still become of a text -/
def Hope (b : Book) (m : Mach) (t : List Nat) (c : Nat) : Prop := ∃ s, Live m s.1 ∧ Rs b m t s c
noncomputable def hopL (b : Book) (m : Mach) (t : List Nat) : List Nat := if least (Hope b m t) = none then [] else b.1.filter fun x => decide (least (Hope b m (t ++ [x])) = least (Hope b m t))
def spRowHope (C : Addr) : Sp := fun vs H Q _ => ∃ (b : Book) (m : Mach) (sts : List Stg) (sf : Addr) (v1 v2 : V) (fl : List Bool) (row : CRow) (A : Nat → Nat → Prop), vs = [.ref sf, v1, v2] ∧ Wb C b m sts H sf ∧ Std b m sts ∧ rL rB H v1 fl ∧ fl.length = m.1 ∧ (∀ n, fl[n]? = some true ↔ Live m n) ∧
  rL (rO rN) H v2 row ∧ LRow sts.length A row ∧ ∀ H', Fe H H' → Q (oV (least fun c => ∃ h s, sts[h]? = some s ∧ Live m s.1 ∧ A h c)) H'
def spHopeCost : Sp := fun vs H Q _ => ∃ (b : Book) (m : Mach) (t : List Nat) (v1 v2 : V), vs = [v1, v2, .str ⟨t.toArray⟩] ∧ rBook H v1 b ∧ rMach H v2 m ∧ POk b m ∧ (∀ x ∈ t, x ∈ b.1) ∧ ∀ H', Fe H H' → Q (oV (least (Hope b m t))) H'
def spHopefulLetters : Sp := fun vs H Q _ => ∃ (b : Book) (m : Mach) (t : List Nat) (v1 v2 : V), vs = [v1, v2, .str ⟨t.toArray⟩] ∧ rBook H v1 b ∧ rMach H v2 m ∧ POk b m ∧ (∀ x ∈ t, x ∈ b.1) ∧ ∀ H', Fe H H' → Q (.str ⟨(hopL b m t).toArray⟩) H'
def somes (l : CRow) : List Nat := l.filterMap id
section
variable {P : Program} {w : World} {K : PySem.W.Frag} {g : Str → Option Value} {base : Heap}
end
end Fm
/-! pieces: what is paid to a standing, begun at each place -/
namespace Fm
open PySem L2
theorem Rc_cl {b : Book} {m : Mach} {sts : List Stg} {t : List Nat} {h to d c : Nat} (z : Rc b m sts t h c) (mv : Told b m sts none h to d) : Rc b m sts t to (c + d) := by
  rcases List.eq_nil_or_concat t with rfl | ⟨t0, x, rfl⟩
  · exact Cl.step z mv
  · rw [List.concat_eq_append] at z ⊢
    rw [Rc.snoc] at z ⊢
    exact Cl.step z mv
def PcS (b : Book) (m : Mach) (sts : List Stg) (t : List Nat) (p h e : Nat) : Prop := ∃ k c, k ≤ p ∧ Rc b m sts ((t.take p).drop k) h c ∧ e = cod t.length c k
def Pre (b : Book) (m : Mach) (sts : List Stg) (t : List Nat) : Nat → Nat → Nat → Prop
  | 0 => fun _ _ => False
  | p + 1 => match t[p]? with
    | some x => Bh (ScN t.length (Told b m sts (some x))) (PcS b m sts t p)
    | none => fun _ _ => False
theorem cod_more (n c d k : Nat) : cod n c k + d * (n + 1) = cod n (c + d) k := by
  unfold cod
  rw [Nat.add_mul]; omega
theorem td_snoc {t : List Nat} {p k x : Nat} (h : t[p]? = some x) (hk : k ≤ p) : (t.take (p + 1)).drop k = (t.take p).drop k ++ [x] := by
  have hl := (List.getElem?_eq_some_iff.mp h).1
  rw [List.take_add_one, h, List.drop_append_of_le_length (by rw [List.length_take]; omega)]
  rfl
theorem pst_step {b : Book} {m : Mach} {sts : List Stg} (o : SOk b m sts) {t : List Nat} {p st : Nat} (hp : p ≤ t.length) (hst : sts[st]? = some (0, [])) (h e : Nat) :
    Cl (ScN t.length (Told b m sts none)) (fun h e => Pre b m sts t p h e ∨ (h = st ∧ e = cod t.length 0 p)) h e ↔ PcS b m sts t p h e := by
  constructor
  · intro z
    induction z with
    | @beg h e z =>
      rcases z with z | ⟨rfl, rfl⟩
      · cases p with
        | zero => exact z.elim
        | succ p =>
          unfold Pre at z
          cases hx : t[p]? with
          | none => simp only [hx] at z
          | some x =>
            simp only [hx] at z
            obtain ⟨h0, e0, d, ⟨k, c, h1, h2, rfl⟩, ⟨d0, h3, rfl⟩, rfl⟩ := z
            refine ⟨k, c + d0, by omega, ?_, cod_more _ _ _ _⟩
            rw [td_snoc hx h1, Rc.snoc]
            exact .beg ⟨h0, c, d0, h2, h3, rfl⟩
      · refine ⟨p, 0, Nat.le_refl _, ?_, rfl⟩
        rw [List.drop_of_length_le (by rw [List.length_take]; omega)]
        exact .beg ⟨hst, rfl⟩
    | step _ s ih =>
      obtain ⟨k, c, h1, h2, rfl⟩ := ih
      obtain ⟨d0, h3, rfl⟩ := s
      exact ⟨k, c + d0, h1, Rc_cl h2 h3, cod_more _ _ _ _⟩
  · rintro ⟨k, c, hk, hR, rfl⟩
    by_cases q : k = p
    · subst q
      rw [List.drop_of_length_le (by rw [List.length_take]; omega)] at hR
      replace hR : Cl (Told b m sts none) (A0 sts) h c := hR
      induction hR with
      | beg z =>
        obtain ⟨z1, rfl⟩ := z
        exact .beg (.inr ⟨nd_ix o.nd z1 hst, rfl⟩)
      | step _ s ih =>
        rw [← cod_more]
        exact .step (ih) ⟨_, s, rfl⟩
    · cases p with
      | zero => omega
      | succ p =>
        have hx : t[p]? = some t[p] := List.getElem?_eq_getElem (by omega)
        rw [td_snoc hx (by omega), Rc.snoc] at hR
        replace hR : Cl (Told b m sts none) (Bh (Told b m sts (some t[p])) (Rc b m sts ((t.take p).drop k))) h c := hR
        induction hR with
        | beg z =>
          obtain ⟨h0, c0, d, z1, z2, rfl⟩ := z
          refine .beg (.inl ?_)
          unfold Pre
          simp only [hx]
          exact ⟨h0, _, _, ⟨k, c0, by omega, z1, rfl⟩, ⟨d, z2, rfl⟩, (cod_more _ _ _ _).symm⟩
        | step _ s ih =>
          rw [← cod_more]
          exact .step (ih) ⟨_, s, rfl⟩
/-- pieces that end at p, by code -/
def PcE (b : Book) (m : Mach) (t : List Nat) (p e : Nat) : Prop := ∃ k c q, k ≤ p ∧ q ∈ m.2.1 ∧ Rs b m ((t.take p).drop k) (q, []) c ∧ e = cod t.length c k
theorem pce_pst {b : Book} {m : Mach} {sts : List Stg} (o : SOk b m sts) {t : List Nat} {p e : Nat} : PcE b m t p e ↔ ∃ h, h ∈ endH m sts sts.length ∧ PcS b m sts t p h e := by
  constructor
  · rintro ⟨k, c, q, h1, h2, h3, rfl⟩
    have hk := rs_stok o.mo h3
    obtain ⟨i, hi⟩ := o.idx hk.1 hk.2
    exact ⟨i, endH_mem.mpr ⟨_, hi, rfl, h2⟩, k, c, h1, (rc_rs o _ i c).mpr ⟨_, hi, h3⟩, rfl⟩
  · rintro ⟨h, h1, k, c, h2, h3, rfl⟩
    obtain ⟨s, h4, h5, h6⟩ := endH_mem.mp h1
    obtain ⟨s', h7, h8⟩ := (rc_rs o _ h c).mp h3
    rw [h4] at h7; cases h7
    obtain ⟨q, r⟩ := s
    have h5 : r = [] := h5
    subst h5
    exact ⟨k, c, q, h2, h6, h8, rfl⟩
def capOk (cap : Option Nat) (c : Nat) : Bool := match cap with
  | none => true
  | some k => decide (c ≤ k)
/-- one end's piece -/
noncomputable def pc1 (b : Book) (m : Mach) (t : List Nat) (cap : Option Nat) (p : Nat) : Option T3 := match least (PcE b m t p) with
  | some e => if capOk cap (dC t.length e) then some (dB t.length e, p, dC t.length e) else none
  | none => none
noncomputable def pcs (b : Book) (m : Mach) (t : List Nat) (cap : Option Nat) (i : Nat) : List T3 := (List.range i).filterMap (pc1 b m t cap)
theorem pcs_succ (b : Book) (m : Mach) (t : List Nat) (cap : Option Nat) (i : Nat) : pcs b m t cap (i + 1) = pcs b m t cap i ++ (pc1 b m t cap i).toList := by
  unfold pcs
  rw [List.range_succ, List.filterMap_append]
  refine congrArg (fun z => _ ++ z) ?_
  cases q : pc1 b m t cap i with
  | none => rw [List.filterMap_cons_none q]; rfl
  | some x => rw [List.filterMap_cons_some q]; rfl
theorem pcs_len (b : Book) (m : Mach) (t : List Nat) (cap : Option Nat) (i : Nat) : (pcs b m t cap i).length ≤ i := by
  unfold pcs
  exact Nat.le_trans (List.length_filterMap_le _ _) (by rw [List.length_range]; exact Nat.le_refl _)
/-- pairs as the least rule takes them -/
theorem al_ts {n : Nat} {H : Hp} {xs : List V} {es : List Nat} (h : Al (rPr n) H xs es) : ∃ ts : List (Addr × List Int), xs = ts.map (fun t => V.ref t.1) ∧ ts.length = es.length ∧ ∀ t ∈ ts, ∃ e ∈ es, t.2 = pL n e ∧ H t.1 = some (.tup (t.2.map V.int)) := by
  induction h with
  | nil => exact ⟨[], rfl, rfl, fun _ h => nomatch h⟩
  | @cons v e vs es h _ ih =>
    obtain ⟨u, rfl, hu⟩ := h
    obtain ⟨ts, rfl, h1, h2⟩ := ih
    refine ⟨(u, pL n e) :: ts, rfl, by rw [List.length_cons, List.length_cons, h1], fun t ht => ?_⟩
    rcases List.mem_cons.mp ht with rfl | ht
    · exact ⟨e, List.mem_cons_self, rfl, hu⟩
    · obtain ⟨e, a, b⟩ := h2 t ht
      exact ⟨e, List.mem_cons_of_mem _ a, b⟩
theorem al_ts' {n : Nat} {H : Hp} : ∀ {xs : List V} {es : List Nat}, Al (rPr n) H xs es → ∀ ts : List (Addr × List Int), xs = ts.map (fun t => V.ref t.1) → (∀ t ∈ ts, H t.1 = some (.tup (t.2.map V.int))) → ∀ e ∈ es, ∃ t ∈ ts, t.2 = pL n e
  | _, _, .nil, _, _, _, _, h => nomatch h
  | _, _, .cons h q, ts, e0, hh, e, he => by
    cases ts with
    | nil => cases e0
    | cons t ts =>
      obtain ⟨u, rfl, hu⟩ := h
      injection e0 with e1 e2
      have e1 : u = t.1 := by injection e1
      subst e1
      rcases List.mem_cons.mp he with rfl | he
      · refine ⟨t, List.mem_cons_self, ?_⟩
        have := hh t List.mem_cons_self
        rw [hu] at this
        injection this with this
        injection this with this
        have inj : ∀ (a b : List Int), a.map V.int = b.map V.int → a = b := by
          intro a
          induction a with
          | nil => intro b h; cases b with
            | nil => rfl
            | cons _ _ => cases h
          | cons x a ih => intro b h; cases b with
            | nil => cases h
            | cons y b => injection h with h1 h2; injection h1 with h1; rw [h1, ih b h2]
        exact (inj _ _ this).symm
      · obtain ⟨t', a, b⟩ := al_ts' q ts e2 (fun t ht => hh t (List.mem_cons_of_mem _ ht)) e he
        exact ⟨t', List.mem_cons_of_mem _ a, b⟩
/-- the least of a list of pairs -/
theorem min_ts {n : Nat} {K : PySem.W.Frag} {H : Hp} {xs : List V} {es : List Nat} (al : Al (rPr n) H xs es) (hne : es ≠ []) : ∃ ts : List (Addr × List Int), xs = ts.map (fun t => V.ref t.1) ∧ (∀ t ∈ ts, SqT K H t.1 (t.2.map V.int)) ∧ 0 < ts.length ∧
    ∀ t ∈ ts, (∀ u ∈ ts, HT.lexLt u.2 t.2 = false) → ∃ e ∈ es, (∀ f ∈ es, e ≤ f) ∧ H t.1 = some (.tup ((pL n e).map V.int)) := by
  obtain ⟨ts, rfl, h1, h2⟩ := al_ts al
  refine ⟨ts, rfl, fun t ht => SqT.of (h2 t ht).choose_spec.2.2, by rw [h1]; exact List.length_pos_iff.mpr hne, fun t ht hm => ?_⟩
  obtain ⟨e, he, e1, e2⟩ := h2 t ht
  refine ⟨e, he, fun f hf => ?_, by rw [← e1]; exact e2⟩
  obtain ⟨u, hu, e3⟩ := al_ts' al ts rfl (fun t ht => (h2 t ht).choose_spec.2.2) f hf
  have := hm u hu
  rw [e3, e1, pL_lt] at this
  have := of_decide_eq_false this
  omega
def eacc (row : CRow) (hs : List Nat) : List Nat := hs.filterMap fun h => row[h]?.getD none
theorem eacc_snoc (row : CRow) (hs : List Nat) (h : Nat) : eacc row (hs ++ [h]) = eacc row hs ++ (row[h]?.getD none).toList := by
  unfold eacc
  rw [List.filterMap_append]
  refine congrArg (fun z => List.filterMap (fun h => row[h]?.getD none) hs ++ z) ?_
  show List.filterMap (fun h => row[h]?.getD none) [h] = _
  rw [List.filterMap_cons]
  cases q : row[h]?.getD none with
  | none => rfl
  | some x => rfl
theorem eacc_mem {row : CRow} {hs : List Nat} {e : Nat} : e ∈ eacc row hs ↔ ∃ h ∈ hs, row[h]? = some (some e) := by
  unfold eacc
  rw [List.mem_filterMap]
  refine exists_congr fun h => and_congr_right fun _ => ?_
  cases q : row[h]? with
  | none => simp
  | some o => simp
def spFound : Sp := fun vs H Q _ => ∃ (b : Book) (m : Mach) (t : List Nat) (cap : Option Nat) (v1 v2 : V), vs = [v1, v2, .str ⟨t.toArray⟩, oV cap] ∧ rBook H v1 b ∧ rMach H v2 m ∧ POk b m ∧ (∀ x ∈ t, x ∈ b.1) ∧ t.length ≤ 60 ∧
  ∀ (H' : Hp) (T : Addr) (ys : List V) (l : List T3), Fe H H' → H' T = some (.tup ys) → Al r3 H' ys l → l.Perm (pcs b m t cap (t.length + 1)) → l.Pairwise le3 → Q (.ref T) H'
end Fm
namespace Fm
open PySem L2
section
variable {P : Program} {w : World} {K : PySem.W.Frag} {g : Str → Option Value} {base : Heap}
theorem ok_found_pieces (T : Txt K g) : FnOk P w K g base CX0 7 T.d_found_pieces.f T.d_found_pieces.fd P_found_pieces spFound := by
  refine T.d_found_pieces.F.ok sc_found_pieces (fun vs H Q E h => ?_) (fun cdv A outer s H vs Q E hr h => ?_)
  · obtain ⟨_, _, _, _, _, _, rfl, _⟩ := h
    rfl
  · obtain ⟨b, m, t, cap, v1, v2, rfl, hb, hm, pok, ht, hlen, kk⟩ := h
    have hu := hu_of hr
    refine ⟨_, (pss_cons (ps_set (i := 4) sc_found_pieces.nd rfl (by first | exact Or.inl rfl | exact Or.inr rfl) (pe_make T.mk_MoveWeb (ok_MoveWeb_init T) (hr.mono (by decide)) rfl T.mg_MoveWeb T.d_MoveWeb_init.b .nil pass0 (pa_cons (pv 0) (pa_cons (pv 1) pa_nil))))
    (pss_cons (ps_set (i := 5) sc_found_pieces.nd rfl (by first | exact Or.inl rfl | exact Or.inr rfl) (pe_dget hu (ke_fld (K := K) rfl (pv 4) rfl) (pe_tup (pa_cons pe_int (pa_cons pe_str pa_nil))) (fun _ _ => rfl)))
    (pss_cons (ps_set (i := 6) sc_found_pieces.nd rfl (by first | exact Or.inl rfl | exact Or.inr rfl) (pe_op op_rep (pe_lst (pa_cons pe_non pa_nil)) (pe_callB (kc_len (K := K) rfl) (by rfl) T.z_len PySem.boot_len (pa_cons (ke_fld (K := K) rfl (pv 4) rfl) pa_nil))))
    (pss_cons (ps_set (i := 7) sc_found_pieces.nd rfl (by first | exact Or.inl rfl | exact Or.inr rfl) (pe_lst pa_nil))
    (pss_cons (ps_for PassesOwn.never rfl (pi_range1 rfl T.z_range (pa_cons (pe_op op_add (pe_callB kc_lenS (by rfl) T.z_len PySem.boot_len (pa_cons (pv 2) pa_nil)) pe_int) pa_nil)) (pg_name (i := 8) sc_found_pieces.nd rfl (by first | exact Or.inl rfl | exact Or.inr rfl))
      (pss_cons (ps_asg (pe_call (ok_better T) (hr.mono (by decide)) rfl T.d_better.mg T.d_better.kp T.d_better.b .nil pass0 (pa_cons (pe_ix (kx_list (K := K) rfl) (pv 6) (pv 5) (fun _ _ => rfl)) (pa_cons (pe_tup (pa_cons pe_int (pa_cons (pe_un un_neg (pv 8)) pa_nil))) pa_nil))) (pg_sub (pv 6) (pv 5) set_list))
      (pss_cons (ps_set (i := 6) sc_found_pieces.nd rfl (by first | exact Or.inl rfl | exact Or.inr rfl) (pe_call (ok_closed_pairs T) (hr.mono (by decide)) rfl T.d_closed_pairs.mg T.d_closed_pairs.kp T.d_closed_pairs.b .nil pass0 (pa_cons (pv 4) (pa_cons (pv 6) pa_nil))))
      (pss_cons (ps_setLc (i := 9) (own := [("home", 12)]) rfl sc_found_pieces.nd rfl rfl (sw_true rfl rfl rfl (by decide +kernel)) (ki_list (K := K) rfl (pe_meth0 (pv 4) T.cl_MoveWeb T.d_MoveWeb_ends.m (ok_MoveWeb_ends T) (hr.mono (by decide)) T.d_MoveWeb_ends.b .nil pass0)) (blkOk_by (N := N_found_pieces) (sc := defScope s_found_pieces) (by decide +kernel)) (fun _ _ _ _ _ => by exact (pg_name (i := 12) sc_found_pieces.nd rfl (by first | exact Or.inl rfl | exact Or.inr rfl))) (fun _ _ _ _ _ => by exact pts_one (pt_cmpR op_notN (pe_ix (kx_list (K := K) rfl) (pv 6) (pv 12) (fun _ _ => rfl)) pe_non (nomark _))) (fun _ _ _ _ _ => by exact (pe_ix (kx_list (K := K) rfl) (pv 6) (pv 12) (fun _ _ => rfl))))
      (pss_cons (ps_if (PW.pt (pw_and (kt_truth (K := K) rfl (pv 9)) (pw_and1 (PW.pt (pw_or (pt_cmpR op_isN (pv 3) pe_non (nomark _)) (pw_or1 (pt_cmpR op_le (pe_ix (kx_tup (K := K) rfl) (pe_callB (kc_minT (K := K) rfl rfl hr.units) (by rfl) T.z_min (by decide +kernel) (pa_cons (pv 9) pa_nil)) pe_int (fun _ _ => rfl)) (pv 3) (nomark _))))))))
        (pss_cons (ps_asg (pe_callB (kc_minT (K := K) rfl rfl hr.units) (by rfl) T.z_min (by decide +kernel) (pa_cons (pv 9) pa_nil)) (kg_tup (K := K) 2 rfl rfl (pgs_cons (pg_name (i := 10) sc_found_pieces.nd rfl (by first | exact Or.inl rfl | exact Or.inr rfl)) (pgs_cons (pg_name (i := 11) sc_found_pieces.nd rfl (by first | exact Or.inl rfl | exact Or.inr rfl)) pgs_nil))))
        (pss_one (ps_expr (ke_bm (K := K) rfl PySem.F.plainAttrs_list PySem.F.slot_list_append PySem.F.type_list_append mt_append (pv 7) (pa_cons (pe_tup (pa_cons (pe_un un_neg (pv 11)) (pa_cons (pv 8) (pa_cons (pv 10) pa_nil)))) pa_nil)))))
        pss_nil)
      (pss_one (ps_if (pt_cmpR op_lt (pv 8) (pe_callB kc_lenS (by rfl) T.z_len PySem.boot_len (pa_cons (pv 2) pa_nil)) (nomark _))
        (pss_one (ps_set (i := 6) sc_found_pieces.nd rfl (by first | exact Or.inl rfl | exact Or.inr rfl) (pe_call (ok_pairs_behind T) (hr.mono (by decide)) rfl T.d_pairs_behind.mg T.d_pairs_behind.kp T.d_pairs_behind.b .nil pass0 (pa_cons (pv 4) (pa_cons (pv 6) (pa_cons (pe_ix ix_str (pv 2) (pv 8) (fun _ _ => rfl)) pa_nil))))))
        pss_nil)))))))
    (pss_one (ps_ret (pe_callTy (kc_tuple (K := K) rfl) (by rfl) T.z_tuple (by decide +kernel) (pa_cons (pe_callB (kc_sortT3 (K := K) rfl) (by rfl) T.z_sorted (by decide +kernel) (pa_cons (pv 7) pa_nil)) pa_nil))))))))), ?_⟩
    refine ⟨_, rfl, _, rfl, fun x_ dx hx hdx hne => ?_⟩
    refine ⟨H, b, m, x_, dx, v1, v2, rfl, (Fe.new hdx).trans (Fe.new (by rw [upd_ne hne.symm]; exact hx)), hx, upd_same, hb, hm, pok, fun H1 rs L as xs ah rd hrs so hl W R => ⟨rfl, ?_⟩⟩
    have hw : Wb T.c_MoveWeb b m (stsOf m.1 rs) H1 x_ := ⟨H, L, dx, v1, v2, as, xs, ah, rd, W, R⟩
    have sd : Std b m (stsOf m.1 rs) := ⟨so, hl, rs, rfl, hrs⟩
    have e01 := W.fe
    obtain ⟨i0, hi0⟩ := sd.start
    obtain ⟨p0, hp0, hins⟩ := W.ins
    have hsl := W.hx.len
    generalize hsts : stsOf m.1 rs = sts at hw sd hi0 W R hsl so hl
    clear hrs
    -- start
    refine ⟨_, rfl, x_, _, dx, _, _, rfl, hins, T.cl_MoveWeb, T.na_MoveWeb_homes, wfl_h, by show 2 ≤ sizeLine; decide, fun U hU => ?_⟩
    have g1 : (upd H1 U (.tup [.int 0, .str ""])) U = some (.tup ((kSt (0, [])).map kV)) := by rw [upd_same, str_nil]; rfl
    have f2 := Fe.new (o := .tup [.int 0, .str ""]) hU
    have hi : i0 < sts.length := (List.getElem?_eq_some_iff.mp hi0).1
    refine ⟨ah, .int (i0 : Int), rfl, by rw [← hkvs_at sd.ok.nd hi0]; exact DGet.t (f2.k W.hh) g1, ?_⟩
    -- row
    refine ⟨by show 1 ≤ sizeLine; decide, fun p1 hp1 => ?_⟩
    have f3 := f2.trans (Fe.new (o := .lst [V.non]) hp1)
    refine ⟨_, rfl, x_, _, dx, _, _, rfl, f3.k hins, T.cl_MoveWeb, T.na_MoveWeb_standings, wfl_s, as, xs, rfl, .inl (SqL.of (f3.k W.hs)), p1, _, _, rfl, rfl, upd_same, by omega, by omega, by rw [sizeLine_eq]; simp only [List.length_singleton]; omega, fun r0 hr0 => ?_⟩
    have en : (List.replicate ((xs.length : Nat) : Int).toNat [V.non]).flatten = (List.replicate sts.length none : CRow).map oV := by
      rw [rep_oV, Int.toNat_natCast, hsl]
    rw [en]
    have f4 := f3.trans (Fe.new (o := .lst ((List.replicate sts.length none : CRow).map oV)) hr0)
    refine ⟨Nat.zero_le _, fun q hq => ?_⟩
    have f5 := f4.trans (Fe.new (o := .lst []) hq)
    have hnone : ∀ (H' : Hp) (n : Nat), Al (rO (rPr t.length)) H' ((List.replicate n none : CRow).map oV) (List.replicate n none) := by
      intro H' n
      induction n with
      | zero => exact .nil
      | succ n ih => exact .cons rfl ih
    have nr0q : r0 ≠ q := ne_of_none upd_same hq
    have hr0n : H1 r0 = none := f3.free hr0
    have hqn : H1 q = none := f4.free hq
    refine ⟨_, rfl, _, rfl, by rw [slen, sizeLine_eq]; omega, _, _, rfl, rfl, _, rfl, by rw [slen]; omega, by rw [slen]; omega, ?_⟩
    have hcn : (((⟨t.toArray⟩ : Str).length : Int) + 1).toNat = t.length + 1 := by rw [slen]; omega
    rw [hcn]
    refine for_range (lo := 0) (n := t.length + 1) (fun i σ' H' => ∃ (r : Addr) (row : CRow) (l : List T3) (acc : List V) (o8 o9 o10 o11 : Option V), σ' = [some v1, some v2, some (.str ⟨t.toArray⟩), some (oV cap), some (.ref x_), some (vN i0), some (.ref r), some (.ref q), o8, o9, o10, o11, none] ∧ Fe H1 H' ∧ H1 r = none ∧ r ≠ q ∧
      Rw t.length H' r row ∧ (i ≤ t.length → LRow sts.length (Pre b m sts t i) row) ∧ H' q = some (.lst acc) ∧ Al r3 H' acc l ∧ l = pcs b m t cap i) ⟨r0, _, [], [], _, _, _, _, rfl, f5, hr0n, nr0q, ⟨_, (Fe.new hq).k upd_same, hnone _ _⟩, fun _ => LRow.nothing _, upd_same, .nil, rfl⟩ ?_ ?_
    · rintro i σ' H' hi' ⟨r, row, l, acc, o8, o9, o10, o11, rfl, e, hrn, nrq, hRw, hL, hq', hal, rfl⟩
      have hit : i ≤ t.length := by omega
      have hL := hL hit
      rw [show ((0 : Int) + (i : Int)) = (i : Int) from Int.zero_add _]
      obtain ⟨rx, hrx, hra⟩ := id hRw
      obtain ⟨oo, hoo⟩ : ∃ oo, row[i0]? = some oo := ⟨row[i0]'(by rw [hL.len]; exact hi), List.getElem?_eq_getElem (by rw [hL.len]; exact hi)⟩
      obtain ⟨vt, hvt, hvtr⟩ := hra.at hoo
      -- row[start] = better(row[start], (0, -place))
      refine ⟨_, rfl, _, rfl, r, _, _, _, rfl, rfl, SqL.of hrx, atI_nat hvt, _, rfl, _, rfl, by show 2 ≤ sizeLine; decide, fun X hX => ?_⟩
      have hX4 : (upd H' X (.tup [.int 0, .int (-(i : Int))])) X = some (.tup ((pL t.length (cod t.length 0 i)).map V.int)) := by rw [upd_same, pL_cod hit]; rfl
      have fX := Fe.new (o := .tup [.int 0, .int (-(i : Int))]) hX
      have e4 := e.trans fX
      have hrx4 := fX.k hrx
      have hra4 := Al.me fX hra
      have hq4 := fX.k hq'
      have hal4 := Al.me fX hal
      have hvtr4 := Me.go hvtr fX
      clear fX hrx hra hq' hal hvtr hRw e hX
      generalize upd H' X (.tup [.int 0, .int (-(i : Int))]) = H4 at hX4 e4 hrx4 hra4 hq4 hal4 hvtr4 ⊢
      have hXr : rO (rPr t.length) H4 (.ref X) (some (cod t.length 0 i)) := ⟨X, rfl, hX4⟩
      refine ⟨t.length, vt, .ref X, oo, some (cod t.length 0 i), rfl, hvtr4, hXr, ?_⟩
      have hi0x : i0 < rx.length := (List.getElem?_eq_some_iff.mp hvt).1
      refine ⟨_, rfl, _, rfl, r, _, _, _, rfl, rfl, hrx4, ixn hi0x, ?_⟩
      obtain ⟨row2, hRw2, hL2⟩ : ∃ row2, Rw t.length (upd H4 r (.lst (rx.set i0 (if takes oo (some (cod t.length 0 i)) = true then .ref X else vt)))) r row2 ∧ LRow sts.length (fun h e => Pre b m sts t i h e ∨ (h = i0 ∧ e = cod t.length 0 i)) row2 := by
        by_cases hb : Bet oo (cod t.length 0 i)
        · rw [takes_bet hb]
          exact ⟨_, Rw.put hrx4 hra4 hXr, hL.put hoo hb⟩
        · rw [takes_not hb hvtr4]
          refine ⟨_, Rw.put hrx4 hra4 hvtr4, ?_⟩
          rw [set_self hoo]
          exact hL.keep hoo hb
      have e5 := e4.mut (o := .lst (rx.set i0 (if takes oo (some (cod t.length 0 i)) = true then .ref X else vt))) hrn
      have fr : Fx [r] H4 (upd H4 r (.lst (rx.set i0 (if takes oo (some (cod t.length 0 i)) = true then .ref X else vt)))) := Fx.put hrx4 (List.mem_singleton.mpr rfl) (fun _ z => nomatch z)
      have hq5 := fr.keep _ _ (fun z => nrq (List.mem_singleton.mp z).symm) hq4
      have hal5 := Al.mo fr hal4
      clear fr hq4 hal4 hrx4 hra4 e4 hXr hvtr4 hX4
      generalize upd H4 r (.lst (rx.set i0 (if takes oo (some (cod t.length 0 i)) = true then .ref X else vt))) = H5 at hRw2 e5 hq5 hal5 ⊢
      -- row = closed_pairs(web, row)
      refine ⟨_, rfl, _, rfl, t.length, b, m, sts, x_, .ref r, row2, _, rfl, hw.f e5, sd, hRw2.rl, hL2, fun p H6 row3 e6 hp hR3 hL3 => ?_⟩
      have hL4 : LRow sts.length (PcS b m sts t i) row3 := hL3.imp (fun h c z => (pst_step sd.ok hit hi0 h c).mp z) (fun h c z => ⟨c, (pst_step sd.ok hit hi0 h c).mpr z, Nat.le_refl _⟩)
      have e16 := e5.trans e6
      have hw6 := hw.f e16
      have hq6 := e6.k hq5
      have hal6 := Al.me e6 hal5
      have hpn := e5.free hp
      have npq : p ≠ q := fun z => by rw [z, hq5] at hp; cases hp
      clear hq5 hal5 hRw2 hL2 hL3 hL e5 e6 hp
      -- pairs
      obtain ⟨dx5, vb5, vm5, as5, ah5, p05, rd5, ss5, hins5, _⟩ := hw6.ins
      refine ⟨_, rfl, x_, dx5, _, rfl, hins5, wfl_no (by decide +kernel) (by decide +kernel) (by decide +kernel) (by decide +kernel) (by decide +kernel) (by decide +kernel), b, m, sts, x_, rfl, hw6, sd, fun p7 H7 e7 hp7 hP7 => ?_⟩
      refine ⟨p7, rfl, ⟨_, SqL.of hP7⟩, fun D hD => lc_list (xs := (endH m sts sts.length).map vN) (fun k H' => Cmp (rPr t.length) H7 D (eacc row3 ((endH m sts sts.length).take k)) H') (Cmp.start hD) (fun k H' hk c => SqL.of (c.fe.k hP7)) (fun k x H' hx c => ?_) (fun H8 c => ?_)⟩
      · obtain ⟨h, hh, hx'⟩ := (Al.ofNats (H := H') (endH m sts sts.length)).get hx
        have hx' : x = vN h := hx'
        subst hx'
        obtain ⟨s, hs, hse⟩ := endH_mem.mp (List.mem_of_getElem? hh)
        have hhl : h < sts.length := (List.getElem?_eq_some_iff.mp hs).1
        obtain ⟨ys3, hy3, hya⟩ := (hR3.f e7).f c.fe
        obtain ⟨o3, ho3⟩ : ∃ o3, row3[h]? = some o3 := ⟨row3[h]'(by rw [hL4.len]; exact hhl), List.getElem?_eq_getElem (by rw [hL4.len]; exact hhl)⟩
        obtain ⟨v3, hv3, hvr3⟩ := hya.at ho3
        have htk : (endH m sts sts.length).take (k + 1) = (endH m sts sts.length).take k ++ [h] := by rw [List.take_add_one, hh]; rfl
        rw [htk, eacc_snoc, ho3]
        have hel : (eacc row3 ((endH m sts sts.length).take k)).length < 1000000 := by
          have h1 := List.length_filterMap_le (fun h => row3[h]?.getD none) ((endH m sts sts.length).take k)
          have h2 := List.length_take_le' k (endH m sts sts.length)
          have h3 := endH_len m sts sts.length
          unfold eacc
          omega
        refine ⟨rfl, _, rfl, _, rfl, p, _, _, _, rfl, rfl, SqL.of hy3, atI_nat hv3, ?_⟩
        cases o3 with
        | none =>
          have hv0 : v3 = .non := hvr3
          subst hv0
          refine ⟨rfl, _, rfl, iteF ?_⟩
          show Cmp _ H7 D (_ ++ []) H'
          rw [List.append_nil]
          exact c
        | some e3 =>
          obtain ⟨u3, rfl, hu3⟩ := hvr3
          refine ⟨rfl, _, rfl, iteT ⟨_, rfl, _, rfl, p, _, _, _, rfl, rfl, SqL.of hy3, atI_nat hv3, ?_⟩⟩
          exact c.add hel (Fx.refl _ _) ⟨u3, rfl, hu3⟩
      · obtain ⟨_, ps, eD, hD8, hal8⟩ := c.rl
        cases eD
        rw [List.length_map, List.take_length] at hal8
        have hem : ∀ e, e ∈ eacc row3 (endH m sts sts.length) ↔ ∃ h ∈ endH m sts sts.length, row3[h]? = some (some e) := fun e => eacc_mem
        have hel : ∀ o, (match o with | none => eacc row3 (endH m sts sts.length) = [] | some e => e ∈ eacc row3 (endH m sts sts.length) ∧ ∀ f ∈ eacc row3 (endH m sts sts.length), e ≤ f) → least (PcE b m t i) = o := by
          intro o ho
          refine least_eq ?_
          cases o with
          | none =>
            intro e he
            obtain ⟨h, h1, h2⟩ := (pce_pst sd.ok).mp he
            obtain ⟨c', h3, _⟩ := hL4.low h e h2
            have := (hem c').mpr ⟨h, h1, h3⟩
            rw [ho] at this
            exact nomatch this
          | some e =>
            refine ⟨?_, fun f hf => ?_⟩
            · obtain ⟨h, h1, h2⟩ := (hem e).mp ho.1
              exact (pce_pst sd.ok).mpr ⟨h, h1, hL4.snd h e h2⟩
            · obtain ⟨h, h1, h2⟩ := (pce_pst sd.ok).mp hf
              obtain ⟨c', h3, h4⟩ := hL4.low h f h2
              exact Nat.le_trans (ho.2 c' ((hem c').mpr ⟨h, h1, h3⟩)) h4
        have e18 := (e16.trans e7).trans c.fe
        have hq8 := c.fe.k (e7.k hq6)
        have hal8' := Al.me c.fe (Al.me e7 hal6)
        have hR8 := (hR3.f e7).f c.fe
        have hplen := pcs_len b m t cap i
        clear c hR3 hw6 hq6 hal6 e16 e7 hins5 hP7 hp7
        refine ⟨_, rfl, !ps.isEmpty, .inl ⟨_, SqL.of hD8, rfl⟩, ?_⟩
        have hsucc := pcs_succ b m t cap i
        generalize eacc row3 (endH m sts sts.length) = es at hal8 hel
        clear hem
        by_cases hes : es = []
        · subst hes
          cases hal8
          have hl0 := hel none rfl
          have hp1 : pc1 b m t cap i = none := by unfold pc1; rw [hl0]
          rw [hp1, Option.toList_none, List.append_nil] at hsucc
          rw [← hsucc] at hal8'
          refine iteF (iteF ?_)
          refine ⟨_, rfl, _, rfl, _, rfl, by rw [slen, sizeLine_eq]; omega, _, _, rfl, rfl, _, rfl, ?_⟩
          rw [slen]
          by_cases hlt : i < t.length
          · rw [decide_eq_true (show ((i : Int) < (t.length : Int)) by omega)]
            have hxi : t[i]? = some t[i] := List.getElem?_eq_getElem hlt
            refine iteT ⟨_, rfl, _, rfl, _, rfl, _, rfl, _, _, t[i], rfl, rfl, by rw [slen, sizeLine_eq]; omega, atI_nat hxi, t.length, b, m, sts, x_, .ref p, row3, _, t[i], rfl, hw.f e18, sd, hR8.rl, hL4, ht _ (List.mem_of_getElem? hxi), fun p9 H9 row9 e9 hp9 hR9 hL9 => ?_⟩
            refine ⟨p9, row9, _, _, _, _, _, _, rfl, e18.trans e9, e18.free hp9, fun z => ?_, hR9, fun _ => ?_, e9.k hq8, Al.me e9 hal8', rfl⟩
            · rw [z, hq8] at hp9; cases hp9
            · unfold Pre
              simp only [hxi]
              exact hL9
          · rw [decide_eq_false (show ¬ ((i : Int) < (t.length : Int)) by omega)]
            exact iteF ⟨p, row3, _, _, _, _, _, _, rfl, e18, hpn, npq, hR8, fun z => absurd z (by omega), hq8, hal8', rfl⟩
        · have hne : ps ≠ [] := fun z => by rw [z] at hal8; cases hal8; exact hes rfl
          have hemp : (!ps.isEmpty) = true := by cases ps with | nil => exact absurd rfl hne | cons _ _ => rfl
          rw [hemp]
          refine iteT ?_
          have hpc : ∀ e ∈ es, (∀ f ∈ es, e ≤ f) → pc1 b m t cap i = if capOk cap (dC t.length e) then some (dB t.length e, i, dC t.length e) else none := fun e he hm => by
            have hl0 := hel (some e) ⟨he, hm⟩
            unfold pc1
            rw [hl0]
          cases cap with
          | none =>
            refine ⟨_, rfl, rfl, _, rfl, iteT (iteT ?_)⟩
            obtain ⟨ts2, hts2, ht12, ht22, ht32⟩ := min_ts (K := K) hal8 hes
            refine ⟨_, rfl, D, ts2, rfl, by rw [← hts2]; exact SqL.of hD8, ht12, ht22, fun tt2 htt2 hmm2 => ?_⟩
            obtain ⟨e2, he2, hm2, hu2⟩ := ht32 tt2 htt2 hmm2
            obtain ⟨u2, uu2⟩ := tt2
            refine ⟨u2, _, rfl, SqT.of hu2, rfl, _, _, rfl, _, _, rfl, rfl, ?_⟩
            have hp1 := hpc e2 he2 hm2
            rw [hp1] at hsucc
            have hsucc2 : pcs b m t _ (i + 1) = pcs b m t _ i ++ [(dB t.length e2, i, dC t.length e2)] := hsucc
            refine ⟨_, rfl, .inl ⟨rfl, _, SqL.of hq8⟩, _, rfl, _, rfl, _, rfl, _, rfl, by show 3 ≤ sizeLine; decide, fun Y hY => ?_⟩
            have fY := Fe.new (o := .tup [.int (-(-((dB t.length e2 : Nat) : Int))), .int (i : Int), .int ((dC t.length e2 : Nat) : Int)]) hY
            have hqY := fY.k hq8
            have hRY := hR8.f fY
            have halY := Al.snoc (r := r3) (y := (dB t.length e2, i, dC t.length e2)) (x := .ref Y) ⟨Y, _, _, _, rfl, upd_same, (show V.int _ = V.int _ by rw [Int.neg_neg]), rfl, rfl⟩ (Al.me fY hal8')
            rw [← hsucc2] at halY
            refine ⟨q, acc, _, rfl, rfl, hqY, by rw [hal8'.len, sizeLine_eq]; omega, ?_⟩
            have fq : Fx [q] (upd H8 Y (.tup [.int (-(-((dB t.length e2 : Nat) : Int))), .int (i : Int), .int ((dC t.length e2 : Nat) : Int)])) (upd (upd H8 Y (.tup [.int (-(-((dB t.length e2 : Nat) : Int))), .int (i : Int), .int ((dC t.length e2 : Nat) : Int)])) q (.lst (acc ++ [.ref Y]))) := Fx.put hqY (List.mem_singleton.mpr rfl) (fun _ z => nomatch z)
            have eY := (e18.trans fY).mut (o := .lst (acc ++ [.ref Y])) hqn
            have halq := Al.mo fq halY
            have hRq : Rw t.length (upd (upd H8 Y (.tup [.int (-(-((dB t.length e2 : Nat) : Int))), .int (i : Int), .int ((dC t.length e2 : Nat) : Int)])) q (.lst (acc ++ [.ref Y]))) p row3 := by
              obtain ⟨zs, hz1, hz2⟩ := hRY
              exact ⟨zs, by rw [upd_ne npq]; exact hz1, Al.mo fq hz2⟩
            have hqq : (upd (upd H8 Y (.tup [.int (-(-((dB t.length e2 : Nat) : Int))), .int (i : Int), .int ((dC t.length e2 : Nat) : Int)])) q (.lst (acc ++ [.ref Y]))) q = some (.lst (acc ++ [.ref Y])) := upd_same
            clear fq fY hqY hRY halY
            generalize upd (upd H8 Y (.tup [.int (-(-((dB t.length e2 : Nat) : Int))), .int (i : Int), .int ((dC t.length e2 : Nat) : Int)])) q (.lst (acc ++ [.ref Y])) = HY at eY halq hRq hqq ⊢
            
            refine ⟨_, rfl, _, rfl, _, rfl, by rw [slen, sizeLine_eq]; omega, _, _, rfl, rfl, _, rfl, ?_⟩
            rw [slen]
            by_cases hlt : i < t.length
            · rw [decide_eq_true (show ((i : Int) < (t.length : Int)) by omega)]
              have hxi : t[i]? = some t[i] := List.getElem?_eq_getElem hlt
              refine iteT ⟨_, rfl, _, rfl, _, rfl, _, rfl, _, _, t[i], rfl, rfl, by rw [slen, sizeLine_eq]; omega, atI_nat hxi, t.length, b, m, sts, x_, .ref p, row3, _, t[i], rfl, hw.f eY, sd, hRq.rl, hL4, ht _ (List.mem_of_getElem? hxi), fun p9 H9 row9 e9 hp9 hR9 hL9 => ?_⟩
              refine ⟨p9, row9, _, _, _, _, _, _, rfl, eY.trans e9, eY.free hp9, fun z => ?_, hR9, fun _ => ?_, e9.k hqq, Al.me e9 halq, rfl⟩
              · rw [z, hqq] at hp9; cases hp9
              · unfold Pre
                simp only [hxi]
                exact hL9
            · rw [decide_eq_false (show ¬ ((i : Int) < (t.length : Int)) by omega)]
              exact iteF ⟨p, row3, _, _, _, _, _, _, rfl, eY, hpn, npq, hRq, fun z => absurd z (by omega), hqq, halq, rfl⟩
          | some k =>
            refine ⟨_, rfl, rfl, _, rfl, iteF ?_⟩
            obtain ⟨ts1, hts1, ht11, ht21, ht31⟩ := min_ts (K := K) hal8 hes
            refine ⟨_, rfl, D, ts1, rfl, by rw [← hts1]; exact SqL.of hD8, ht11, ht21, fun tt1 htt1 hmm1 => ?_⟩
            obtain ⟨e1, he1, hm1, hu1⟩ := ht31 tt1 htt1 hmm1
            obtain ⟨u1, uu1⟩ := tt1
            refine ⟨u1, _, _, _, rfl, rfl, SqT.of hu1, rfl, _, rfl, _, _, rfl, rfl, _, rfl, ?_⟩
            by_cases hck : dC t.length e1 ≤ k
            · rw [decide_eq_true (show ((dC t.length e1 : Nat) : Int) ≤ (k : Int) by omega)]
              replace hpc : ∀ e ∈ es, (∀ f ∈ es, e ≤ f) → pc1 b m t (some k) i = some (dB t.length e, i, dC t.length e) := fun e he hm => by
                have ee : e = e1 := Nat.le_antisymm (hm e1 he1) (hm1 e he)
                subst ee
                rw [hpc e he hm]
                exact if_pos (decide_eq_true hck)
              refine iteT ?_
              obtain ⟨ts2, hts2, ht12, ht22, ht32⟩ := min_ts (K := K) hal8 hes
              refine ⟨_, rfl, D, ts2, rfl, by rw [← hts2]; exact SqL.of hD8, ht12, ht22, fun tt2 htt2 hmm2 => ?_⟩
              obtain ⟨e2, he2, hm2, hu2⟩ := ht32 tt2 htt2 hmm2
              obtain ⟨u2, uu2⟩ := tt2
              refine ⟨u2, _, rfl, SqT.of hu2, rfl, _, _, rfl, _, _, rfl, rfl, ?_⟩
              have hp1 := hpc e2 he2 hm2
              rw [hp1] at hsucc
              have hsucc2 : pcs b m t _ (i + 1) = pcs b m t _ i ++ [(dB t.length e2, i, dC t.length e2)] := hsucc
              refine ⟨_, rfl, .inl ⟨rfl, _, SqL.of hq8⟩, _, rfl, _, rfl, _, rfl, _, rfl, by show 3 ≤ sizeLine; decide, fun Y hY => ?_⟩
              have fY := Fe.new (o := .tup [.int (-(-((dB t.length e2 : Nat) : Int))), .int (i : Int), .int ((dC t.length e2 : Nat) : Int)]) hY
              have hqY := fY.k hq8
              have hRY := hR8.f fY
              have halY := Al.snoc (r := r3) (y := (dB t.length e2, i, dC t.length e2)) (x := .ref Y) ⟨Y, _, _, _, rfl, upd_same, (show V.int _ = V.int _ by rw [Int.neg_neg]), rfl, rfl⟩ (Al.me fY hal8')
              rw [← hsucc2] at halY
              refine ⟨q, acc, _, rfl, rfl, hqY, by rw [hal8'.len, sizeLine_eq]; omega, ?_⟩
              have fq : Fx [q] (upd H8 Y (.tup [.int (-(-((dB t.length e2 : Nat) : Int))), .int (i : Int), .int ((dC t.length e2 : Nat) : Int)])) (upd (upd H8 Y (.tup [.int (-(-((dB t.length e2 : Nat) : Int))), .int (i : Int), .int ((dC t.length e2 : Nat) : Int)])) q (.lst (acc ++ [.ref Y]))) := Fx.put hqY (List.mem_singleton.mpr rfl) (fun _ z => nomatch z)
              have eY := (e18.trans fY).mut (o := .lst (acc ++ [.ref Y])) hqn
              have halq := Al.mo fq halY
              have hRq : Rw t.length (upd (upd H8 Y (.tup [.int (-(-((dB t.length e2 : Nat) : Int))), .int (i : Int), .int ((dC t.length e2 : Nat) : Int)])) q (.lst (acc ++ [.ref Y]))) p row3 := by
                obtain ⟨zs, hz1, hz2⟩ := hRY
                exact ⟨zs, by rw [upd_ne npq]; exact hz1, Al.mo fq hz2⟩
              have hqq : (upd (upd H8 Y (.tup [.int (-(-((dB t.length e2 : Nat) : Int))), .int (i : Int), .int ((dC t.length e2 : Nat) : Int)])) q (.lst (acc ++ [.ref Y]))) q = some (.lst (acc ++ [.ref Y])) := upd_same
              clear fq fY hqY hRY halY
              generalize upd (upd H8 Y (.tup [.int (-(-((dB t.length e2 : Nat) : Int))), .int (i : Int), .int ((dC t.length e2 : Nat) : Int)])) q (.lst (acc ++ [.ref Y])) = HY at eY halq hRq hqq ⊢
              
              refine ⟨_, rfl, _, rfl, _, rfl, by rw [slen, sizeLine_eq]; omega, _, _, rfl, rfl, _, rfl, ?_⟩
              rw [slen]
              by_cases hlt : i < t.length
              · rw [decide_eq_true (show ((i : Int) < (t.length : Int)) by omega)]
                have hxi : t[i]? = some t[i] := List.getElem?_eq_getElem hlt
                refine iteT ⟨_, rfl, _, rfl, _, rfl, _, rfl, _, _, t[i], rfl, rfl, by rw [slen, sizeLine_eq]; omega, atI_nat hxi, t.length, b, m, sts, x_, .ref p, row3, _, t[i], rfl, hw.f eY, sd, hRq.rl, hL4, ht _ (List.mem_of_getElem? hxi), fun p9 H9 row9 e9 hp9 hR9 hL9 => ?_⟩
                refine ⟨p9, row9, _, _, _, _, _, _, rfl, eY.trans e9, eY.free hp9, fun z => ?_, hR9, fun _ => ?_, e9.k hqq, Al.me e9 halq, rfl⟩
                · rw [z, hqq] at hp9; cases hp9
                · unfold Pre
                  simp only [hxi]
                  exact hL9
              · rw [decide_eq_false (show ¬ ((i : Int) < (t.length : Int)) by omega)]
                exact iteF ⟨p, row3, _, _, _, _, _, _, rfl, eY, hpn, npq, hRq, fun z => absurd z (by omega), hqq, halq, rfl⟩
            · rw [decide_eq_false (show ¬ ((dC t.length e1 : Nat) : Int) ≤ (k : Int) by omega)]
              have hp1 : pc1 b m t (some k) i = none := by
                rw [hpc e1 he1 hm1]
                exact if_neg (fun z => hck (of_decide_eq_true z))
              rw [hp1, Option.toList_none, List.append_nil] at hsucc
              rw [← hsucc] at hal8'
              refine iteF ?_
              refine ⟨_, rfl, _, rfl, _, rfl, by rw [slen, sizeLine_eq]; omega, _, _, rfl, rfl, _, rfl, ?_⟩
              rw [slen]
              by_cases hlt : i < t.length
              · rw [decide_eq_true (show ((i : Int) < (t.length : Int)) by omega)]
                have hxi : t[i]? = some t[i] := List.getElem?_eq_getElem hlt
                refine iteT ⟨_, rfl, _, rfl, _, rfl, _, rfl, _, _, t[i], rfl, rfl, by rw [slen, sizeLine_eq]; omega, atI_nat hxi, t.length, b, m, sts, x_, .ref p, row3, _, t[i], rfl, hw.f e18, sd, hR8.rl, hL4, ht _ (List.mem_of_getElem? hxi), fun p9 H9 row9 e9 hp9 hR9 hL9 => ?_⟩
                refine ⟨p9, row9, _, _, _, _, _, _, rfl, e18.trans e9, e18.free hp9, fun z => ?_, hR9, fun _ => ?_, e9.k hq8, Al.me e9 hal8', rfl⟩
                · rw [z, hq8] at hp9; cases hp9
                · unfold Pre
                  simp only [hxi]
                  exact hL9
              · rw [decide_eq_false (show ¬ ((i : Int) < (t.length : Int)) by omega)]
                exact iteF ⟨p, row3, _, _, _, _, _, _, rfl, e18, hpn, npq, hR8, fun z => absurd z (by omega), hq8, hal8', rfl⟩
    · rintro σ' H' ⟨r, row, l, acc, o8, o9, o10, o11, rfl, e, hrn, nrq, hRw, hL, hq', hal, rfl⟩
      have hpl := pcs_len b m t cap (t.length + 1)
      refine ⟨_, rfl, ?_⟩
      show rSort3 K [.ref q] H' _
      refine sort3_by (SqL.of hq') hal (by omega) fun ys l' p0 hal' hpm hpw hp0n => ?_
      refine ⟨p0, _, rfl, .inl ⟨SqL.of upd_same, fun T0 hT0 => ?_⟩⟩
      have f1 := Fe.new (o := .lst ys) hp0n
      have f2 := f1.trans (Fe.new (o := .tup ys) hT0)
      exact kk _ T0 ys l' ((e01.trans e).trans f2) upd_same (Al.me f2 hal') hpm hpw
end
end Fm
namespace Fm
open PySem L2
/-- a tuple of ints that stands for x by the key f -/
def rKy {α : Type} (f : α → List Int) : Rp α := fun H v x => ∃ u, v = .ref u ∧ H u = some (.tup ((f x).map V.int))
instance {α : Type} {f : α → List Int} : Mo (rKy f) := ⟨fun g ⟨u, e, h⟩ => ⟨u, e, g.tups _ _ h⟩⟩
theorem al_ky {α : Type} {f : α → List Int} {H : Hp} {xs : List V} {es : List α} (h : Al (rKy f) H xs es) : ∃ ts : List (Addr × α), xs = ts.map (fun t => V.ref t.1) ∧ ts.map (·.2) = es ∧ ∀ t ∈ ts, H t.1 = some (.tup ((f t.2).map V.int)) := by
  induction h with
  | nil => exact ⟨[], rfl, rfl, fun _ h => nomatch h⟩
  | @cons v e vs es h _ ih =>
    obtain ⟨u, rfl, hu⟩ := h
    obtain ⟨ts, rfl, h1, h2⟩ := ih
    refine ⟨(u, e) :: ts, rfl, by rw [List.map_cons, h1], fun t ht => ?_⟩
    rcases List.mem_cons.mp ht with rfl | ht
    · exact hu
    · exact h2 t ht
/-- the least of a list by key -/
theorem min_ky {α : Type} {f : α → List Int} {K : PySem.W.Frag} {H : Hp} {xs : List V} {es : List α} (al : Al (rKy f) H xs es) (hne : es ≠ []) : ∃ ts : List (Addr × List Int), xs = ts.map (fun t => V.ref t.1) ∧ (∀ t ∈ ts, SqT K H t.1 (t.2.map V.int)) ∧ 0 < ts.length ∧
    ∀ t ∈ ts, (∀ u ∈ ts, HT.lexLt u.2 t.2 = false) → ∃ e ∈ es, (∀ g ∈ es, HT.lexLt (f g) (f e) = false) ∧ H t.1 = some (.tup ((f e).map V.int)) := by
  obtain ⟨ts, rfl, rfl, h2⟩ := al_ky al
  refine ⟨ts.map fun t => (t.1, f t.2), by rw [List.map_map]; rfl, fun t ht => ?_, ?_, fun t ht hm => ?_⟩
  · obtain ⟨t0, h0, rfl⟩ := List.mem_map.mp ht
    exact SqT.of (h2 t0 h0)
  · rw [List.length_map]
    have := List.length_pos_iff.mpr hne
    rwa [List.length_map] at this
  · obtain ⟨t0, h0, rfl⟩ := List.mem_map.mp ht
    refine ⟨t0.2, List.mem_map.mpr ⟨t0, h0, rfl⟩, fun g hg => ?_, h2 t0 h0⟩
    obtain ⟨t1, h1, rfl⟩ := List.mem_map.mp hg
    exact hm _ (List.mem_map.mpr ⟨t1, h1, rfl⟩)
/-- by cost, letters, place -/
def k4 (x : T3) : List Int := [(x.2.2 : Int), (x.1 : Int) - (x.2.1 : Int), (x.1 : Int), (x.2.1 : Int)]
theorem k4_inj {x y : T3} (h : k4 x = k4 y) : x = y := by
  obtain ⟨a, b, c⟩ := x
  obtain ⟨a', b', c'⟩ := y
  unfold k4 at h
  injection h with h1 h
  injection h with _ h
  injection h with h2 h
  injection h with h3 _
  have h1 : (c : Int) = c' := h1
  have h2 : (a : Int) = a' := h2
  have h3 : (b : Int) = b' := h3
  have e1 : a = a' := by omega
  have e2 : b = b' := by omega
  have e3 : c = c' := by omega
  rw [e1, e2, e3]
/-- x is the best of l -/
def Best (l : List T3) (x : T3) : Prop := x ∈ l ∧ ∀ y ∈ l, HT.lexLt (k4 y) (k4 x) = false
theorem best_eq {l : List T3} {x y : T3} (h : Best l x) (k : Best l y) : x = y := k4_inj (lex_tot _ _ (k.2 _ h.1) (h.2 _ k.1))
def spBest : Sp := fun vs H Q _ => ∃ (b : Book) (m : Mach) (t : List Nat) (v1 v2 : V), vs = [v1, v2, .str ⟨t.toArray⟩] ∧ rBook H v1 b ∧ rMach H v2 m ∧ POk b m ∧ (∀ x ∈ t, x ∈ b.1) ∧ t.length ≤ 60 ∧
  (pcs b m t none (t.length + 1) = [] → ∀ H', Fe H H' → Q .non H') ∧ ∀ (H' : Hp) (T : Addr) (x : T3), Fe H H' → H' T = some (.tup [vN x.1, vN x.2.1, vN x.2.2]) → Best (pcs b m t none (t.length + 1)) x → Q (.ref T) H'
section
variable {P : Program} {w : World} {K : PySem.W.Frag} {g : Str → Option Value} {base : Heap}
theorem ok_best_piece (T : Txt K g) : FnOk P w K g base CX0 8 T.d_best_piece.f T.d_best_piece.fd P_best_piece spBest := by
  refine T.d_best_piece.F.ok sc_best_piece (fun vs H Q E h => ?_) (fun cdv A outer s H vs Q E hr h => ?_)
  · obtain ⟨_, _, _, _, _, rfl, _⟩ := h
    rfl
  · obtain ⟨b, m, t, v1, v2, rfl, hb, hm, pok, ht, hlen, kn, kk⟩ := h
    have hu := hu_of hr
    refine ⟨_, (pss_cons (ps_setLc (i := 3) (own := [("begin", 6), ("end", 7), ("cost", 4)]) rfl sc_best_piece.nd rfl rfl (sw_true rfl rfl rfl (by decide +kernel)) (ki_tup (K := K) rfl (pe_call (ok_found_pieces T) (hr.mono (by decide)) rfl T.d_found_pieces.mg T.d_found_pieces.kp T.d_found_pieces.b .nil pass0 (pa_cons (pv 0) (pa_cons (pv 1) (pa_cons (pv 2) (pa_cons pe_non pa_nil)))))) (blkOk_by (N := N_best_piece) (sc := defScope s_best_piece) (by decide +kernel)) (fun _ _ _ _ _ => by exact (kg_tup (K := K) 3 rfl rfl (pgs_cons (pg_name (i := 6) sc_best_piece.nd rfl (by first | exact Or.inl rfl | exact Or.inr rfl)) (pgs_cons (pg_name (i := 7) sc_best_piece.nd rfl (by first | exact Or.inl rfl | exact Or.inr rfl)) (pgs_cons (pg_name (i := 4) sc_best_piece.nd rfl (by first | exact Or.inl rfl | exact Or.inr rfl)) pgs_nil))))) (fun _ _ _ _ _ => by exact pts_nil) (fun _ _ _ _ _ => by exact (pe_tup (pa_cons (pv 4) (pa_cons (pe_op op_sub (pv 6) (pv 7)) (pa_cons (pv 6) (pa_cons (pv 7) pa_nil)))))))
    (pss_cons (ps_if (pt_not (kt_truth (K := K) rfl (pv 3)))
      (pss_one (ps_ret pe_non))
      pss_nil)
    (pss_cons (ps_asg (pe_callB (kc_minT (K := K) rfl rfl hr.units) (by rfl) T.z_min (by decide +kernel) (pa_cons (pv 3) pa_nil)) (kg_tup (K := K) 4 rfl rfl (pgs_cons (pg_name (i := 4) sc_best_piece.nd rfl (by first | exact Or.inl rfl | exact Or.inr rfl)) (pgs_cons (pg_name (i := 5) sc_best_piece.nd rfl (by first | exact Or.inl rfl | exact Or.inr rfl)) (pgs_cons (pg_name (i := 6) sc_best_piece.nd rfl (by first | exact Or.inl rfl | exact Or.inr rfl)) (pgs_cons (pg_name (i := 7) sc_best_piece.nd rfl (by first | exact Or.inl rfl | exact Or.inr rfl)) pgs_nil))))))
    (pss_one (ps_ret (pe_tup (pa_cons (pv 6) (pa_cons (pv 7) (pa_cons (pv 4) pa_nil))))))))), ?_⟩
    refine ⟨_, rfl, _, rfl, _, rfl, b, m, t, none, v1, v2, rfl, hb, hm, pok, ht, hlen, fun H1 T0 ys l e1 hT0 hal hpm hpw => ?_⟩
    have hll : l.length ≤ 61 := by
      have := pcs_len b m t none (t.length + 1)
      rw [hpm.length_eq]; omega
    refine ⟨T0, rfl, ⟨_, SqT.of hT0⟩, fun D hD => lc_tup (xs := ys) (fun i H' => Cmp (rKy k4) H1 D (l.take i) H') (Cmp.start hD) (fun i H' hi c => SqT.of (c.fe.k hT0)) (fun i x H' hx c => ?_) (fun H2 c => ?_)⟩
    · obtain ⟨x3, hx3, u, w1, w2, w3, rfl, hu1, rfl, rfl, rfl⟩ := hal.get hx
      have htk : l.take (i + 1) = l.take i ++ [x3] := by rw [List.take_add_one, hx3]; rfl
      have hl2 := List.length_take_le' i l
      rw [htk]
      refine ⟨u, _, rfl, SqT.of (c.fe.k hu1), rfl, _, _, rfl, _, _, rfl, _, _, rfl, rfl, rfl, iteT (B := Cmp (rKy k4) H1 D (l.take i ++ [x3]) H') ⟨_, rfl, _, rfl, _, rfl, _, _, rfl, rfl, _, rfl, _, rfl, by show 4 ≤ sizeLine; decide, fun U hU => ?_⟩⟩
      exact c.add (by omega) (Fe.new hU) ⟨U, rfl, upd_same⟩
    · obtain ⟨_, ps, eD, hD2, hal2⟩ := c.rl
      cases eD
      have hyl := hal.len
      rw [hyl, List.take_length] at hal2
      have e2 := e1.trans c.fe
      refine ⟨_, rfl, !ps.isEmpty, .inl ⟨_, SqL.of hD2, rfl⟩, ?_⟩
      by_cases hl : l = []
      · subst hl
        cases hal2
        have hp0 : pcs b m t none (t.length + 1) = [] := hpm.nil_eq.symm
        exact iteT (kn hp0 H2 e2)
      · have hne : ps ≠ [] := fun z => by rw [z] at hal2; cases hal2; exact hl rfl
        have hemp : (!ps.isEmpty) = true := by cases ps with | nil => exact absurd rfl hne | cons _ _ => rfl
        rw [hemp]
        obtain ⟨ts, hts, ht1, ht2, ht3⟩ := min_ky (K := K) hal2 hl
        refine iteF ⟨_, rfl, D, ts, rfl, by rw [← hts]; exact SqL.of hD2, ht1, ht2, fun tt htt hmm => ?_⟩
        obtain ⟨x, hx, hxm, hxu⟩ := ht3 tt htt hmm
        obtain ⟨u, uu⟩ := tt
        refine ⟨u, _, rfl, SqT.of hxu, rfl, _, _, rfl, _, _, rfl, _, _, rfl, _, _, rfl, rfl, ?_⟩
        refine ⟨_, rfl, _, rfl, _, rfl, by show 3 ≤ sizeLine; decide, fun Z hZ => ?_⟩
        exact kk _ Z x (e2.trans (Fe.new hZ)) upd_same ⟨hpm.mem_iff.mp hx, fun y hy => hxm y (hpm.mem_iff.mpr hy)⟩
end
end Fm
namespace Fm
open PySem L2
def liv (fl : List Bool) (z : Option Nat × Stg) : Bool := fl[z.2.1]?.getD false
def hacc (fl : List Bool) (row : CRow) (sts : List Stg) (i : Nat) : CRow := (((row.zip sts).take i).filter (liv fl)).map (·.1)
theorem hacc_succ {fl : List Bool} {row : CRow} {sts : List Stg} {i : Nat} {o : Option Nat} {s : Stg} (h1 : row[i]? = some o) (h2 : sts[i]? = some s) : hacc fl row sts (i + 1) = hacc fl row sts i ++ (if liv fl (o, s) then [o] else []) := by
  unfold hacc
  have hz : (row.zip sts)[i]? = some (o, s) := List.getElem?_zip_eq_some.mpr ⟨h1, h2⟩
  rw [List.take_add_one, hz, List.filter_append, List.map_append]
  refine congrArg (fun z => _ ++ z) ?_
  show List.map _ (List.filter _ [(o, s)]) = _
  rw [List.filter_cons]
  split <;> rfl
theorem hacc_len {fl : List Bool} {row : CRow} {sts : List Stg} {i : Nat} : (hacc fl row sts i).length ≤ row.length := by
  unfold hacc
  rw [List.length_map]
  refine Nat.le_trans (List.length_filter_le _ _) ?_
  rw [List.length_take, List.length_zip]
  omega
theorem hacc_mem {fl : List Bool} {row : CRow} {sts : List Stg} {o : Option Nat} (hl : row.length = sts.length) : o ∈ hacc fl row sts row.length ↔ ∃ (h : Nat) (s : Stg), row[h]? = some o ∧ sts[h]? = some s ∧ fl[s.1]? = some true := by
  unfold hacc
  rw [List.take_of_length_le (by rw [List.length_zip]; omega), List.mem_map]
  constructor
  · rintro ⟨z, h1, rfl⟩
    obtain ⟨h2, h3⟩ := List.mem_filter.mp h1
    obtain ⟨h, hh⟩ := List.mem_iff_getElem?.mp h2
    obtain ⟨h4, h5⟩ := List.getElem?_zip_eq_some.mp hh
    refine ⟨h, z.2, h4, h5, ?_⟩
    unfold liv at h3
    cases q : fl[z.2.1]? with
    | none => rw [q] at h3; cases h3
    | some v => rw [q] at h3; exact congrArg some h3
  · rintro ⟨h, s, h1, h2, h3⟩
    refine ⟨(o, s), List.mem_filter.mpr ⟨List.mem_of_getElem? (List.getElem?_zip_eq_some.mpr ⟨h1, h2⟩ : (row.zip sts)[h]? = some (o, s)), ?_⟩, rfl⟩
    show fl[s.1]?.getD false = true
    rw [h3]; rfl
section
variable {P : Program} {w : World} {K : PySem.W.Frag} {g : Str → Option Value} {base : Heap}
theorem hope_rc {b : Book} {m : Mach} {sts : List Stg} (o : SOk b m sts) (t : List Nat) : (least fun c => ∃ (h : Nat) (s : Stg), sts[h]? = some s ∧ Live m s.1 ∧ Rc b m sts t h c) = least (Hope b m t) := by
  refine least_congr fun c => ⟨?_, ?_⟩
  · rintro ⟨h, s, h1, h2, h3⟩
    obtain ⟨s', h4, h5⟩ := (rc_rs o t h c).mp h3
    rw [h1] at h4; cases h4
    exact ⟨s, h2, h5⟩
  · rintro ⟨s, h1, h2⟩
    have q := rs_stok o.mo h2
    obtain ⟨i, hi⟩ := o.idx q.1 q.2
    exact ⟨i, s, hi, h1, (rc_rs o t i c).mpr ⟨s, hi, h2⟩⟩
end
end Fm
/-! the law's draws -/
namespace Fm
open PySem L2
theorem Fx.mu {M : List Addr} {H H' : Hp} {q : Addr} {o : HO} (e : Fx M H H') (hq : H q = none) : Fx M H (upd H' q o) :=
  ⟨fun a o' n h => by rw [upd_ne (ne_of_none h hq)]; exact e.keep a o' n h, fun a xs h => by rw [upd_ne (ne_of_none h hq)]; exact e.tups a xs h⟩
theorem Fx.fr {M : List Addr} {H H' : Hp} {q : Addr} (e : Fx M H H') (n : q ∉ M) (h : H' q = none) : H q = none := by
  cases z : H q with
  | none => rfl
  | some o => rw [e.keep q o n z] at h; cases h
/-- the pool at p, its great numbers at g -/
def Pl (H : Hp) (p g : Addr) : Prop := ∃ (s : Int) (gs : List Int), H p = some (.lst [.int s, .ref g]) ∧ H g = some (.lst (gs.map V.int)) ∧ gs.length ≤ 64
theorem Pl.ne {H : Hp} {p g : Addr} (P : Pl H p g) : p ≠ g := by
  obtain ⟨s, gs, h1, h2, _⟩ := P
  intro e
  rw [e, h2] at h1
  have h := HO.lst.inj (Option.some.inj h1)
  cases gs with
  | nil => cases h
  | cons x gs =>
    cases gs with
    | nil => cases h
    | cons y gs =>
      rw [List.map_cons, List.map_cons] at h
      injection h with _ h
      injection h with h _
      cases h
theorem Pl.nw {H : Hp} {p g q : Addr} (P : Pl H p g) (h : H q = none) : q ∉ [p, g] := by
  obtain ⟨s, gs, h1, h2, _⟩ := P
  intro z
  rcases List.mem_cons.mp z with rfl | z
  · rw [h] at h1; cases h1
  · rw [List.mem_singleton.mp z, h2] at h; cases h
theorem Pl.keep {H H' : Hp} {p g : Addr} (P : Pl H p g) (f : Fe H H') : Pl H' p g := by
  obtain ⟨s, gs, h1, h2, h3⟩ := P
  exact ⟨s, gs, f.k h1, f.k h2, h3⟩
theorem Pl.put {H : Hp} {p g q : Addr} {o : HO} (P : Pl H p g) (n : q ∉ [p, g]) : Pl (upd H q o) p g := by
  obtain ⟨s, gs, h1, h2, h3⟩ := P
  exact ⟨s, gs, by rw [upd_ne (fun e => n (by rw [← e]; exact List.mem_cons_self))]; exact h1, by rw [upd_ne (fun e => n (by rw [← e]; exact List.mem_cons_of_mem _ List.mem_cons_self))]; exact h2, h3⟩
def spPool (K : PySem.W.Frag) : Sp := fun vs H Q _ => ∃ (a : Addr) (ns : List Int), vs = [.ref a] ∧ SqL K H a (ns.map V.int) ∧ ns.length ≤ 63 ∧ ∀ (p g : Addr) (H' : Hp), Fe H H' → H p = none → H g = none → Pl H' p g → Q (.ref p) H'
def spDraw : Sp := fun vs H Q _ => ∃ (p g : Addr) (n : Nat), vs = [.ref p, .int (n : Int)] ∧ Pl H p g ∧ 0 < n ∧ n < 1000000 ∧ ∀ (r : Nat) (H' : Hp), Fx [p, g] H H' → Pl H' p g → r < n → Q (.int (r : Int)) H'
theorem cpow60 : CPow 10 60 := ⟨by decide, by decide, by decide +kernel⟩
theorem cpow18 : CPow 10 18 := ⟨by decide, by decide, by decide +kernel⟩
theorem mod_nat (i : Int) {n : Nat} (h : 0 < n) : ∃ r : Nat, i % (n : Int) = (r : Int) ∧ r < n := by
  have h1 := Int.emod_nonneg i (show (n : Int) ≠ 0 by omega)
  have h2 := Int.emod_lt_of_pos i (show (0 : Int) < n by omega)
  exact ⟨(i % (n : Int)).toNat, by omega, by omega⟩
section
variable {P : Program} {w : World} {K : PySem.W.Frag} {g : Str → Option Value} {base : Heap}
theorem ok_law_pool (T : Txt K g) : FnOk P w K g base CX0 1 T.d_law_pool.f T.d_law_pool.fd P_law_pool (spPool K) := by
  refine T.d_law_pool.F.ok sc_law_pool (fun vs H Q E h => ?_) (fun cdv A outer s H vs Q E hr h => ?_)
  · obtain ⟨_, _, rfl, _⟩ := h
    rfl
  · obtain ⟨a, ns, rfl, hs, hlen, kk⟩ := h
    have hu := hu_of hr
    refine ⟨_, (pss_cons (ps_set (i := 1) sc_law_pool.nd rfl (by first | exact Or.inl rfl | exact Or.inr rfl) (pe_op op_mulW (pe_op op_mulW (pe_op op_mulW (pe_op op_mulW (pe_op op_mulW (pe_op op_pow pe_int pe_int) (pe_op op_pow pe_int pe_int)) (pe_op op_pow pe_int pe_int)) (pe_op op_pow pe_int pe_int)) (pe_op op_pow pe_int pe_int)) (pe_op op_pow pe_int pe_int)))
    (pss_cons (ps_set (i := 2) sc_law_pool.nd rfl (by first | exact Or.inl rfl | exact Or.inr rfl) pe_int)
    (pss_cons (ps_set (i := 3) sc_law_pool.nd rfl (by first | exact Or.inl rfl | exact Or.inr rfl) (pe_lst pa_nil))
    (pss_cons (ps_for PassesOwn.never rfl (ki_list (K := K) rfl (pv 0)) (pg_name (i := 4) sc_law_pool.nd rfl (by first | exact Or.inl rfl | exact Or.inr rfl))
      (pss_cons (ps_set (i := 2) sc_law_pool.nd rfl (by first | exact Or.inl rfl | exact Or.inr rfl) (pe_op op_mod (pe_op op_add (pe_op op_add (pe_op op_mul (pv 2) pe_int) (pe_op op_mul (pe_op op_mod (pe_callTy call_int1 (by rfl) T.z_int (by decide +kernel) (pa_cons (pv 4) pa_nil)) pe_int) pe_int)) pe_int) pe_int))
      (pss_one (ps_if (pt_cmpR op_ge (pe_callTy call_int1 (by rfl) T.z_int (by decide +kernel) (pa_cons (pv 4) pa_nil)) (pe_op op_pow pe_int pe_int) (nomark _))
        (pss_one (ps_expr (ke_bm (K := K) rfl PySem.F.plainAttrs_list PySem.F.slot_list_append PySem.F.type_list_append mt_append (pv 3) (pa_cons (pe_op op_mod (pe_callTy call_int1 (by rfl) T.z_int (by decide +kernel) (pa_cons (pv 4) pa_nil)) (pv 1)) pa_nil))))
        pss_nil))))
    (pss_one (ps_ret (pe_lst (pa_cons (pe_op op_add (pv 2) pe_int) (pa_cons (ke_rev (K := K) rfl (pv 3)) pa_nil))))))))), ?_⟩
    refine ⟨_, _, rfl, rfl, cpow60, _, _, rfl, rfl, cpow60, _, _, rfl, rfl, (by unfold CMulW; decide +kernel), _, _, rfl, rfl, cpow60, _, _, rfl, rfl, (by unfold CMulW; decide +kernel), _, _, rfl, rfl, cpow60, _, _, rfl, rfl, (by unfold CMulW; decide +kernel), _, _, rfl, rfl, cpow60, _, _, rfl, rfl, (by unfold CMulW; decide +kernel), _, _, rfl, rfl, cpow60, _, _, rfl, rfl, (by unfold CMulW; decide +kernel), ?_⟩
    refine ⟨Nat.zero_le _, fun G hG => ?_⟩
    have e0 : Fe H (upd H G (.lst [])) := Fe.new hG
    refine ⟨_, rfl, a, rfl, ⟨_, e0.same.seq hs⟩, for_list (K := K) (a := a) (xs := ns.map V.int) (fun i σ' H' => ∃ (most st : Int) (gs : List Int) (o4 : Option V), σ' = [some (.ref a), some (.int most), some (.int st), some (.ref G), o4] ∧ 0 < most ∧ Fe H H' ∧ H' G = some (.lst (gs.map V.int)) ∧ gs.length ≤ i)
      ⟨_, 91009, [], none, rfl, by decide +kernel, e0, upd_same, Nat.le_refl _⟩ (fun i σ' H' _ ⟨_, _, _, _, _, _, e, _⟩ => e.same.seq hs) ?_ ?_⟩
    · rintro i x σ' H' hx ⟨most, st, gs, o4, rfl, hm0, e, hGl, hl⟩
      have hi : i < ns.length := by
        have := (List.getElem?_eq_some_iff.mp hx).1
        rwa [List.length_map] at this
      rw [List.getElem?_map, List.getElem?_eq_getElem hi] at hx
      cases hx
      generalize ns[i] = c
      refine ⟨_, rfl, _, _, rfl, rfl, .inr (by decide), _, rfl, .inl ⟨_, rfl, _, _, rfl, rfl, (by show (0 : Int) < 998244353; decide), _, _, rfl, rfl, .inr (by decide), _, _, rfl, rfl, _, _, rfl, rfl, _, _, rfl, rfl, (by show (0 : Int) < 2147483549; decide), ?_⟩⟩
      refine ⟨_, rfl, .inl ⟨_, rfl, _, _, rfl, rfl, cpow18, _, _, rfl, rfl, _, rfl, ?_⟩⟩
      refine ite2 (fun _ => ?_) (fun _ => ?_)
      · refine ⟨_, rfl, .inl ⟨rfl, _, SqL.of hGl⟩, _, rfl, .inl ⟨_, rfl, _, rfl, _, _, rfl, rfl, hm0, G, _, _, rfl, rfl, hGl, by rw [List.length_map, sizeLine_eq]; omega, ?_⟩⟩
        exact ⟨most, _, gs ++ [c % most], _, rfl, hm0, e.mut hG, by rw [upd_same, List.map_append]; rfl, by rw [List.length_append, List.length_singleton]; omega⟩
      · exact ⟨most, _, gs, _, rfl, hm0, e, hGl, by omega⟩
    · rintro σ' H' ⟨most, st, gs, o4, rfl, hm0, e, hGl, hl⟩
      rw [List.length_map] at hl
      refine ⟨_, rfl, _, _, rfl, rfl, _, rfl, G, _, rfl, SqL.of hGl, fun g hg => ⟨by show 2 ≤ sizeLine; decide, fun p hp => ?_⟩⟩
      have f1 := Fe.new (o := .lst (gs.map V.int).reverse) hg
      have f2 := f1.trans (Fe.new (o := .lst [.int (st + 1), .ref g]) hp)
      refine kk p g _ (e.trans f2) (e.free (f1.free hp)) (e.free hg) ⟨st + 1, gs.reverse, upd_same, ?_, by rw [List.length_reverse]; omega⟩
      rw [upd_ne (ne_of_none upd_same hp), upd_same, List.map_reverse]
theorem ok_law_draw (T : Txt K g) : FnOk P w K g base CX0 1 T.d_law_draw.f T.d_law_draw.fd P_law_draw spDraw := by
  refine T.d_law_draw.F.ok sc_law_draw (fun vs H Q E h => ?_) (fun cdv A outer s H vs Q E hr h => ?_)
  · obtain ⟨_, _, _, rfl, _⟩ := h
    rfl
  · obtain ⟨p, g, n, rfl, hP, hn0, hn, kk⟩ := h
    have hu := hu_of hr
    refine ⟨_, (pss_cons (ps_set (i := 2) sc_law_draw.nd rfl (by first | exact Or.inl rfl | exact Or.inr rfl) (pe_ix (kx_list (K := K) rfl) (pv 0) pe_int (fun _ _ => rfl)))
    (pss_cons (ps_if (pt_cmpR op_gt (pe_callB (kc_len (K := K) rfl) (by rfl) T.z_len PySem.boot_len (pa_cons (pv 2) pa_nil)) pe_int (nomark _))
      (pss_cons (ps_set (i := 3) sc_law_draw.nd rfl (by first | exact Or.inl rfl | exact Or.inr rfl) (pe_callTy call_int1 (by rfl) T.z_int (by decide +kernel) (pa_cons (ke_bm0 (K := K) rfl PySem.F.plainAttrs_list PySem.F.slot_list_pop PySem.F.type_list_pop mt_pop (pv 2)) pa_nil)))
      (pss_cons (ps_if (pt_cmpR op_ge (pv 3) (pv 1) (nomark _))
        (pss_one (ps_expr (ke_bm (K := K) rfl PySem.F.plainAttrs_list PySem.F.slot_list_append PySem.F.type_list_append mt_append (pv 2) (pa_cons (pe_op op_fdiv (pv 3) (pv 1)) pa_nil))))
        pss_nil)
      (pss_one (ps_ret (pe_op op_mod (pe_callTy call_int1 (by rfl) T.z_int (by decide +kernel) (pa_cons (pv 3) pa_nil)) (pv 1))))))
      pss_nil)
    (pss_cons (ps_set (i := 4) sc_law_draw.nd rfl (by first | exact Or.inl rfl | exact Or.inr rfl) (pe_op op_mod (pe_op op_mul (pe_callTy call_int1 (by rfl) T.z_int (by decide +kernel) (pa_cons (pe_ix (kx_list (K := K) rfl) (pv 0) pe_int (fun _ _ => rfl)) pa_nil)) pe_int) pe_int))
    (pss_cons (ps_asg (pv 4) (pg_sub (pv 0) pe_int set_list))
    (pss_one (ps_ret (pe_op op_mod (pe_op op_fdiv (pv 4) pe_int) (pv 1)))))))), ?_⟩
    have hne := hP.ne
    obtain ⟨st, gs, hp, hg, hl⟩ := id hP
    refine ⟨_, rfl, p, _, _, _, rfl, rfl, SqL.of hp, atI_nat (j := 1) rfl, ?_⟩
    refine ⟨_, rfl, g, _, rfl, .inl (SqL.of hg), _, _, rfl, rfl, _, rfl, ?_⟩
    cases gs with
    | cons g0 gs0 =>
      rw [decide_eq_true (show ((((g0 :: gs0).map V.int).length : Nat) : Int) > 0 by rw [List.length_map, List.length_cons]; omega)]
      refine iteT ?_
      generalize hgs : g0 :: gs0 = gs at hg hl
      have hne2 : gs ≠ [] := by rw [← hgs]; exact fun z => nomatch z
      clear hgs g0 gs0
      have hd := List.dropLast_concat_getLast hne2
      generalize gs.getLast hne2 = last at hd
      generalize gs.dropLast = rest at hd
      subst hd
      have hlast : ((rest ++ [last]).map V.int)[((rest ++ [last]).map V.int).length - 1]? = some (.int last) := by
        rw [List.map_append, List.length_append, List.getElem?_append_right (by simp)]
        simp
      have hdl : ((rest ++ [last]).map V.int).dropLast = rest.map V.int := by
        rw [List.map_append]; simp
      rw [List.length_append, List.length_singleton] at hl
      have f1 : Fx [p, g] H (upd H g (.lst (rest.map V.int))) := Fx.put hg (by simp) (fun _ z => nomatch z)
      have P1 : Pl (upd H g (.lst (rest.map V.int))) p g := ⟨st, rest, by rw [upd_ne hne]; exact hp, upd_same, by omega⟩
      refine ⟨_, rfl, .inl ⟨rfl, _, SqL.of hg⟩, g, _, _, rfl, rfl, hg, hlast, .inl ⟨_, rfl, ?_⟩⟩
      rw [hdl]
      refine ⟨_, rfl, _, rfl, _, _, rfl, rfl, _, rfl, ?_⟩
      obtain ⟨r, hr1, hr2⟩ := mod_nat last hn0
      refine ite2 (fun _ => ?_) (fun _ => ?_)
      · refine ⟨_, rfl, .inl ⟨rfl, _, SqL.of upd_same⟩, _, rfl, _, rfl, _, _, rfl, rfl, ⟨by omega, by omega⟩, g, _, _, rfl, rfl, upd_same, by rw [List.length_map, sizeLine_eq]; omega, ?_⟩
        have f2 : Fx [p, g] (upd H g (.lst (rest.map V.int))) (upd (upd H g (.lst (rest.map V.int))) g (.lst (rest.map V.int ++ [.int (last / (n : Int))]))) := Fx.put upd_same (by simp) (fun _ z => nomatch z)
        refine ⟨_, rfl, .inl ⟨_, rfl, _, rfl, _, _, rfl, rfl, (by show (0 : Int) < (n : Int); omega), ?_⟩⟩
        show Q (.int (last % (n : Int))) _
        rw [hr1]
        refine kk r _ (f1.trans f2) ⟨st, rest ++ [last / (n : Int)], by rw [upd_ne hne, upd_ne hne]; exact hp, by rw [upd_same, List.map_append]; rfl, by rw [List.length_append, List.length_singleton]; omega⟩ hr2
      · refine ⟨_, rfl, .inl ⟨_, rfl, _, rfl, _, _, rfl, rfl, (by show (0 : Int) < (n : Int); omega), ?_⟩⟩
        show Q (.int (last % (n : Int))) _
        rw [hr1]
        exact kk r _ f1 P1 hr2
    | nil =>
      rw [decide_eq_false (show ¬ ((((([] : List Int).map V.int).length : Nat) : Int) > 0) by simp)]
      refine iteF ?_
      refine ⟨_, rfl, p, _, _, _, rfl, rfl, SqL.of hp, atI_nat (j := 0) rfl, .inl ⟨_, rfl, _, _, rfl, rfl, .inr (by decide), _, _, rfl, rfl, (by show (0 : Int) < 2147483647; decide), ?_⟩⟩
      refine ⟨_, rfl, _, rfl, p, _, _, 0, rfl, rfl, hp, rfl, ?_⟩
      obtain ⟨r, hr1, hr2⟩ := mod_nat (st * 40692 % 2147483647 / 29) hn0
      refine ⟨_, rfl, _, _, rfl, rfl, ⟨by decide, by decide⟩, _, rfl, _, _, rfl, rfl, (by show (0 : Int) < (n : Int); omega), ?_⟩
      show Q (.int (st * 40692 % 2147483647 / 29 % (n : Int))) _
      rw [hr1]
      refine kk r _ (Fx.put hp (by simp) (fun _ z => nomatch z)) ⟨st * 40692 % 2147483647, [], upd_same, by rw [upd_ne hne.symm]; exact hg, by simp⟩ hr2
end
end Fm
namespace Fm
open PySem L2
abbrev s1 (c : Nat) : V := .str ⟨#[c]⟩
def alph : List Nat := (List.range 26).map (· + 97)
theorem alph_eq : ("abcdefghijklmnopqrstuvwxyz" : Str) = ⟨alph.toArray⟩ := by decide +kernel
theorem alph_nd : alph.Nodup := by decide +kernel
def spLetters : Sp := fun vs H Q _ => ∃ (p g : Addr) (n : Nat), vs = [.ref p, .int (n : Int)] ∧ Pl H p g ∧ 0 < n ∧ n ≤ 20 ∧ ∀ (l : List Nat) (H' : Hp), Fx [p, g] H H' → Pl H' p g → l.Nodup → l ≠ [] → l.length ≤ n → Q (.str ⟨l.toArray⟩) H'
def spText : Sp := fun vs H Q _ => ∃ (p g : Addr) (ls : List Nat) (n : Nat), vs = [.ref p, .str ⟨ls.toArray⟩, .int (n : Int)] ∧ Pl H p g ∧ ls ≠ [] ∧ ls.length ≤ 1000 ∧ n ≤ 1000 ∧ ∀ (t : List Nat) (H' : Hp), Fx [p, g] H H' → Pl H' p g → (∀ x ∈ t, x ∈ ls) → t.length ≤ n → Q (.str ⟨t.toArray⟩) H'
def spPair : Sp := fun vs H Q _ => ∃ (p g : Addr), vs = [.ref p] ∧ Pl H p g ∧ ∀ (q : Addr) (a b : Nat) (H' : Hp), Fx [p, g] H H' → Pl H' p g → H' q = some (.lst [s1 a, s1 b]) → a ≠ b → Q (.ref q) H'
theorem str_app (a : List Nat) (c : Nat) : (⟨(a ++ [c]).toArray⟩ : Str) = ⟨a.toArray⟩ ++ ⟨#[c]⟩ := by
  have := SX.S_cat a [c]
  exact this.symm
theorem map_erase {α β : Type} (f : α → β) : ∀ (l : List α) (k : Nat), (l.map f).eraseIdx k = (l.eraseIdx k).map f
  | [], _ => rfl
  | _ :: _, 0 => rfl
  | x :: l, k + 1 => by rw [List.map_cons, List.eraseIdx_cons_succ, List.eraseIdx_cons_succ, List.map_cons, map_erase f l k]
theorem erase_at {l : List Nat} {k : Nat} {y : Nat} (h : l[k]? = some y) : (y :: l.eraseIdx k).Perm l := erase_perm l k y h
section
variable {P : Program} {w : World} {K : PySem.W.Frag} {g : Str → Option Value} {base : Heap}
theorem ok_law_letters (T : Txt K g) : FnOk P w K g base CX0 2 T.d_law_letters.f T.d_law_letters.fd P_law_letters spLetters := by
  refine T.d_law_letters.F.ok sc_law_letters (fun vs H Q E h => ?_) (fun cdv A outer s H vs Q E hr h => ?_)
  · obtain ⟨_, _, _, rfl, _⟩ := h
    rfl
  · obtain ⟨p, g, n, rfl, hP, hn0, hn, kk⟩ := h
    have hu := hu_of hr
    refine ⟨_, (pss_cons (ps_set (i := 2) sc_law_letters.nd rfl (by first | exact Or.inl rfl | exact Or.inr rfl) (pe_callTy (kc_listS rfl) (by rfl) T.z_list (by decide +kernel) (pa_cons pe_str pa_nil)))
    (pss_cons (ps_set (i := 3) sc_law_letters.nd rfl (by first | exact Or.inl rfl | exact Or.inr rfl) (pe_lst pa_nil))
    (pss_cons (ps_for PassesOwn.never rfl (pi_range1 rfl T.z_range (pa_cons (pe_op op_add pe_int (pe_call (ok_law_draw T) (hr.mono (by decide)) rfl T.d_law_draw.mg T.d_law_draw.kp T.d_law_draw.b .nil pass0 (pa_cons (pv 0) (pa_cons (pv 1) pa_nil)))) pa_nil)) (pg_name (i := 4) sc_law_letters.nd rfl (by first | exact Or.inl rfl | exact Or.inr rfl))
      (pss_one (ps_expr (ke_bm (K := K) rfl PySem.F.plainAttrs_list PySem.F.slot_list_append PySem.F.type_list_append mt_append (pv 3) (pa_cons (ke_bm (K := K) rfl PySem.F.plainAttrs_list PySem.F.slot_list_pop PySem.F.type_list_pop mt_popAt (pv 2) (pa_cons (pe_call (ok_law_draw T) (hr.mono (by decide)) rfl T.d_law_draw.mg T.d_law_draw.kp T.d_law_draw.b .nil pass0 (pa_cons (pv 0) (pa_cons (pe_callB (kc_len (K := K) rfl) (by rfl) T.z_len PySem.boot_len (pa_cons (pv 2) pa_nil)) pa_nil))) pa_nil)) pa_nil)))))
    (pss_one (ps_ret (pe_join pe_str (pe_callB (kc_sortedS (K := K) rfl) (by rfl) T.z_sorted (by decide +kernel) (pa_cons (pv 3) pa_nil)))))))), ?_⟩
    refine ⟨alph, by rw [← alph_eq], by decide +kernel, fun L hL => ⟨Nat.zero_le _, fun F hF => ?_⟩⟩
    have hLF : L ≠ F := ne_of_none upd_same hF
    have f0 : Fe H (upd (upd H L (.lst (alph.map s1))) F (.lst [])) := (Fe.new hL).trans (Fe.new hF)
    have P0 := hP.keep f0
    have hF0 : H F = none := (Fe.new hL).free hF
    have nL := hP.nw hL
    have nF := hP.nw hF0
    refine ⟨_, rfl, _, rfl, p, g, n, rfl, P0, hn0, by omega, fun r H1 f1 P1 hr1 => ⟨_, _, rfl, rfl, _, rfl, by omega, by omega, ?_⟩⟩
    have hcn : (1 + (r : Int)).toNat = 1 + r := by omega
    rw [hcn]
    refine for_range (lo := 0) (n := 1 + r) (fun i σ' H' => ∃ (lf fd : List Nat) (o4 : Option V), σ' = [some (.ref p), some (.int (n : Int)), some (.ref L), some (.ref F), o4] ∧ Fx [p, g] H H' ∧ Pl H' p g ∧ H' L = some (.lst (lf.map s1)) ∧ H' F = some (.lst (fd.map s1)) ∧ (fd ++ lf).Nodup ∧ fd.length + lf.length = 26 ∧ fd.length = i)
      ⟨alph, [], none, rfl, f0.to.trans f1, P1, f1.keep _ _ nL (by rw [upd_ne hLF]; exact upd_same), f1.keep _ _ nF upd_same, alph_nd, by decide +kernel, rfl⟩ ?_ ?_
    · rintro i σ' H' hi ⟨lf, fd, o4, rfl, f2, P2, h1, h2, nd, h26, hl⟩
      refine ⟨_, rfl, .inl ⟨rfl, _, SqL.of h2⟩, _, rfl, .inl ⟨rfl, _, SqL.of h1⟩, _, rfl, _, rfl, L, _, rfl, .inl (SqL.of h1), ?_⟩
      refine ⟨p, g, lf.length, by rw [List.length_map]; rfl, P2, by omega, by omega, fun k H3 f3 P3 hk => ?_⟩
      have h13 := f3.keep _ _ nL h1
      have h23 := f3.keep _ _ nF h2
      have hlk : lf[k]? = some lf[k] := List.getElem?_eq_getElem hk
      revert hlk
      generalize lf[k] = y
      intro hlk
      have pm := erase_at hlk
      have hk' : k < (lf.map s1).length := by rw [List.length_map]; exact hk
      refine ⟨L, _, _, k, s1 y, rfl, rfl, h13, by omega, by omega, (ixN_seq (ixn hk')).1, by rw [List.getElem?_map, hlk]; rfl, F, fd.map s1, _, rfl, rfl, ?_, by rw [List.length_map, sizeLine_eq]; omega, ?_⟩
      · rw [upd_ne hLF.symm]; exact h23
      have hpl := pm.length_eq
      rw [List.length_cons] at hpl
      refine ⟨lf.eraseIdx k, fd ++ [y], _, rfl, ((f2.trans f3).mu hL).mu hF0, (P3.put nL).put nF, ?_, by rw [upd_same, List.map_append]; rfl, ?_, by rw [List.length_append, List.length_singleton]; omega, by rw [List.length_append, List.length_singleton]; omega⟩
      · rw [upd_ne hLF, upd_same, map_erase]
      · rw [List.append_assoc]
        exact (pm.append_left fd).nodup_iff.mpr nd
    · rintro σ' H' ⟨lf, fd, o4, rfl, f2, P2, h1, h2, nd, h26, hl⟩
      refine ⟨⟨_, rfl⟩, _, rfl, F, fd.map fun c => SX.S [c], rfl, by rw [List.map_map]; exact SqL.of h2, by rw [List.length_map]; omega, fun ys q hpm hsrt hq => ?_⟩
      obtain ⟨l, rfl, hpl⟩ := perm_strs (ys := ys) (ks := fd.map fun c => [c]) (by rw [List.map_map]; exact hpm)
      obtain ⟨l2, rfl, hpl2⟩ := perm_lift (fun c : Nat => [c]) hpl fd rfl
      have hll := hpl2.length_eq
      refine ⟨_, q, _, rfl, rfl, .inl (SqL.of upd_same), ?_, ?_⟩
      · have : ∀ l : List Nat, (((l.map fun c => [c]).map sS).map (·.length)).sum = l.length := by
          intro l
          induction l with
          | nil => rfl
          | cons x l ih => rw [List.map_cons, List.map_cons, List.map_cons, List.sum_cons, ih, List.length_cons]; show 1 + l.length = l.length + 1; omega
        rw [this, List.length_map, List.length_map]
        show _ + _ * 0 ≤ _
        omega
      · rw [str_nil]
        show Q (.str (PySem.Txt.join ⟨([] : List Nat).toArray⟩ ((l2.map fun c => [c]).map SX.S))) _
        rw [join_chars]
        refine kk l2 _ (f2.trans (Fe.new hq).to) (P2.keep (Fe.new hq)) (hpl2.nodup_iff.mpr (List.nodup_append.mp nd).1) (fun z => ?_) (by omega)
        rw [z] at hll
        simp at hll
        omega
theorem ok_law_text (T : Txt K g) : FnOk P w K g base CX0 2 T.d_law_text.f T.d_law_text.fd P_law_text spText := by
  refine T.d_law_text.F.ok sc_law_text (fun vs H Q E h => ?_) (fun cdv A outer s H vs Q E hr h => ?_)
  · obtain ⟨_, _, _, _, rfl, _⟩ := h
    rfl
  · obtain ⟨p, g, ls, n, rfl, hP, hls, hl1, hn, kk⟩ := h
    have hu := hu_of hr
    refine ⟨_, (pss_cons (ps_set (i := 3) sc_law_text.nd rfl (by first | exact Or.inl rfl | exact Or.inr rfl) pe_str)
    (pss_cons (ps_for PassesOwn.never rfl (pi_range1 rfl T.z_range (pa_cons (pe_call (ok_law_draw T) (hr.mono (by decide)) rfl T.d_law_draw.mg T.d_law_draw.kp T.d_law_draw.b .nil pass0 (pa_cons (pv 0) (pa_cons (pe_op op_add (pv 2) pe_int) pa_nil))) pa_nil)) (pg_name (i := 4) sc_law_text.nd rfl (by first | exact Or.inl rfl | exact Or.inr rfl))
      (pss_one (ps_set (i := 3) sc_law_text.nd rfl (by first | exact Or.inl rfl | exact Or.inr rfl) (pe_op op_add_str (pv 3) (pe_ix ix_str (pv 1) (pe_call (ok_law_draw T) (hr.mono (by decide)) rfl T.d_law_draw.mg T.d_law_draw.kp T.d_law_draw.b .nil pass0 (pa_cons (pv 0) (pa_cons (pe_callB kc_lenS (by rfl) T.z_len PySem.boot_len (pa_cons (pv 1) pa_nil)) pa_nil))) (fun _ _ => rfl))))))
    (pss_one (ps_ret (pv 3))))), ?_⟩
    refine ⟨_, rfl, _, rfl, _, _, rfl, rfl, p, g, n + 1, rfl, hP, by omega, by omega, fun r H1 f1 P1 hr1 => ⟨_, rfl, by omega, by omega, ?_⟩⟩
    have hcn : (r : Int).toNat = r := by omega
    rw [hcn]
    refine for_range (lo := 0) (n := r) (fun i σ' H' => ∃ (t : List Nat) (o4 : Option V), σ' = [some (.ref p), some (.str ⟨ls.toArray⟩), some (.int (n : Int)), some (.str ⟨t.toArray⟩), o4] ∧ Fx [p, g] H H' ∧ Pl H' p g ∧ (∀ x ∈ t, x ∈ ls) ∧ t.length = i)
      ⟨[], none, by rw [← str_nil]; rfl, f1, P1, (fun _ z => nomatch z), rfl⟩ ?_ ?_
    · rintro i σ' H' hi ⟨t, o4, rfl, f2, P2, ht, hl⟩
      have hpos : 0 < ls.length := List.length_pos_iff.mpr hls
      refine ⟨_, rfl, _, rfl, _, rfl, _, rfl, _, rfl, by rw [slen, sizeLine_eq]; omega, p, g, ls.length, by rw [slen]; rfl, P2, hpos, by omega, fun k H3 f3 P3 hk => ?_⟩
      have hlk : ls[k]? = some ls[k] := List.getElem?_eq_getElem hk
      refine ⟨_, _, ls[k], rfl, rfl, by rw [slen, sizeLine_eq]; omega, atI_nat hlk, _, _, rfl, rfl, by rw [slen, sizeLine_eq]; show t.length + 1 ≤ _; omega, ?_⟩
      refine ⟨t ++ [ls[k]], _, by rw [str_app]; rfl, f2.trans f3, P3, fun x hx => ?_, by rw [List.length_append, List.length_singleton]; omega⟩
      rcases List.mem_append.mp hx with hx | hx
      · exact ht x hx
      · rw [List.mem_singleton.mp hx]; exact List.getElem_mem hk
    · rintro σ' H' ⟨t, o4, rfl, f2, P2, ht, hl⟩
      exact ⟨_, rfl, kk t H' f2 P2 ht (by omega)⟩
theorem ok_law_pair (T : Txt K g) : FnOk P w K g base CX0 2 T.d_law_pair.f T.d_law_pair.fd P_law_pair spPair := by
  refine T.d_law_pair.F.ok sc_law_pair (fun vs H Q E h => ?_) (fun cdv A outer s H vs Q E hr h => ?_)
  · obtain ⟨_, _, rfl, _⟩ := h
    rfl
  · obtain ⟨p, g, rfl, hP, kk⟩ := h
    have hu := hu_of hr
    refine ⟨_, (pss_cons (ps_set (i := 1) sc_law_pair.nd rfl (by first | exact Or.inl rfl | exact Or.inr rfl) (pe_call (ok_law_draw T) (hr.mono (by decide)) rfl T.d_law_draw.mg T.d_law_draw.kp T.d_law_draw.b .nil pass0 (pa_cons (pv 0) (pa_cons pe_int pa_nil))))
    (pss_cons (ps_set (i := 2) sc_law_pair.nd rfl (by first | exact Or.inl rfl | exact Or.inr rfl) (pe_op op_add (pe_op op_add (pv 1) pe_int) (pe_call (ok_law_draw T) (hr.mono (by decide)) rfl T.d_law_draw.mg T.d_law_draw.kp T.d_law_draw.b .nil pass0 (pa_cons (pv 0) (pa_cons (pe_op op_sub pe_int (pv 1)) pa_nil)))))
    (pss_one (ps_ret (pe_lst (pa_cons (pe_ix ix_str pe_str (pv 1) (fun _ _ => rfl)) (pa_cons (pe_ix ix_str pe_str (pv 2) (fun _ _ => rfl)) pa_nil))))))), ?_⟩
    refine ⟨_, rfl, p, g, 25, rfl, hP, by decide, by decide, fun r H1 f1 P1 hr1 => ?_⟩
    refine ⟨_, rfl, _, _, rfl, rfl, _, rfl, _, rfl, _, _, rfl, rfl, p, g, 25 - r, ?_, P1, by omega, by omega, fun k H2 f2 P2 hk => ?_⟩
    · show [V.ref p, V.int (25 - (r : Int))] = _
      rw [show (25 - (r : Int)) = ((25 - r : Nat) : Int) by omega]
    have h1 : r < alph.length := by show r < 26; omega
    have h2 : r + 1 + k < alph.length := by show _ < 26; omega
    have g1 : alph[r]? = some alph[r] := List.getElem?_eq_getElem h1
    have g2 : alph[r + 1 + k]? = some alph[r + 1 + k] := List.getElem?_eq_getElem h2
    have a1 : atI (("abcdefghijklmnopqrstuvwxyz" : Str).cps.toList) (r : Int) = some alph[r] := by rw [alph_eq]; exact atI_nat g1
    have a2 : atI (("abcdefghijklmnopqrstuvwxyz" : Str).cps.toList) ((r : Int) + 1 + (k : Int)) = some alph[r + 1 + k] := by
      rw [alph_eq, show ((r : Int) + 1 + (k : Int)) = ((r + 1 + k : Nat) : Int) by omega]; exact atI_nat g2
    refine ⟨_, _, rfl, rfl, _, rfl, _, _, _, rfl, rfl, by decide +kernel, a1, _, rfl, _, _, _, rfl, rfl, by decide +kernel, a2, by show 2 ≤ sizeLine; decide, fun q hq => ?_⟩
    refine kk q _ _ _ ((f1.trans f2).trans (Fe.new hq).to) (P2.keep (Fe.new hq)) upd_same fun z => ?_
    have := nd_ix alph_nd g1 (z ▸ g2)
    omega
end
end Fm
namespace Fm
open PySem L2
abbrev rStep : Rp (Nat × Nat × Nat) := rP3 rN rC rN
def stK (s : Nat × Nat × Nat) : List Key := [kN s.1, kS [s.2.1], kN s.2.2]
theorem tl_of {α : Type} {r : Rp α} {H : Hp} (f : α → List Key) (hr : ∀ v x, r H v x → ∃ a, v = .ref a ∧ H a = some (.tup ((f x).map kV))) : ∀ {vs : List V} {xs : List α}, Al r H vs xs →
    ∃ ks : TL, vs = ks.map (fun p => V.ref p.1) ∧ ks.length = xs.length ∧ ∀ p ∈ ks, ∃ x, x ∈ xs ∧ p.2 = f x ∧ H p.1 = some (.tup (p.2.map kV))
  | [], [], .nil => ⟨[], rfl, rfl, fun _ z => nomatch z⟩
  | _ :: _, x :: _, .cons h t => by
    obtain ⟨ks, e, hl, hk⟩ := tl_of f hr t
    obtain ⟨a, rfl, ha⟩ := hr _ _ h
    refine ⟨(a, f x) :: ks, by rw [e]; rfl, by rw [List.length_cons, List.length_cons, hl], fun p hp => ?_⟩
    rcases List.mem_cons.mp hp with rfl | hp
    · exact ⟨x, List.mem_cons_self, rfl, ha⟩
    · obtain ⟨x, hx, h1, h2⟩ := hk p hp
      exact ⟨x, List.mem_cons_of_mem _ hx, h1, h2⟩
theorem tl_back {α : Type} {r : Rp α} {H : Hp} (f : α → List Key) (hf : ∀ a x, H a = some (.tup ((f x).map kV)) → r H (.ref a) x) (xs : List α) : ∀ L : TL, (∀ p ∈ L, ∃ x, x ∈ xs ∧ p.2 = f x ∧ H p.1 = some (.tup (p.2.map kV))) →
    ∃ ys, Al r H (L.map fun p => V.ref p.1) ys ∧ (∀ y ∈ ys, y ∈ xs) ∧ ys.map f = L.map (·.2)
  | [], _ => ⟨[], .nil, (fun _ z => nomatch z), rfl⟩
  | p :: L, h => by
    obtain ⟨ys, h1, h2, h3⟩ := tl_back f hf xs L fun q hq => h q (List.mem_cons_of_mem _ hq)
    obtain ⟨x, hx, e, hp⟩ := h p List.mem_cons_self
    rw [e] at hp
    refine ⟨x :: ys, .cons (hf _ _ hp) h1, fun y hy => ?_, by rw [List.map_cons, List.map_cons, h3, e]⟩
    rcases List.mem_cons.mp hy with rfl | hy
    · exact hx
    · exact h2 y hy
theorem step_key {H : Hp} {v : V} {s : Nat × Nat × Nat} (h : rStep H v s) : ∃ a, v = .ref a ∧ H a = some (.tup ((stK s).map kV)) := by
  obtain ⟨a, x, y, z, rfl, ha, rfl, rfl, rfl⟩ := h
  exact ⟨a, rfl, ha⟩
theorem step_back {H : Hp} {a : Addr} {s : Nat × Nat × Nat} (h : H a = some (.tup ((stK s).map kV))) : rStep H (.ref a) s := ⟨a, _, _, _, rfl, h, rfl, rfl, rfl⟩
/-- behind set(steps), sorted(..): what comes back -/
theorem steps_back {H H3 : Hp} {sts : List (Nat × Nat × Nat)} {ks L L' : TL} (hk : ∀ p ∈ ks, ∃ x, x ∈ sts ∧ p.2 = stK x ∧ H p.1 = some (.tup (p.2.map kV))) (hsub : ∀ p ∈ L, p ∈ ks) (hpm : L'.Perm L) (f : Fe H H3) :
    ∃ ys, Al rStep H3 (L'.map fun p => V.ref p.1) ys ∧ (∀ y ∈ ys, y ∈ sts) ∧ ys.length = L.length := by
  obtain ⟨ys, h1, h2, h3⟩ := tl_back (r := rStep) stK (fun a x h => step_back h) sts L' fun p hp => by
    obtain ⟨x, hx, e, h⟩ := hk p (hsub p (hpm.mem_iff.mp hp))
    exact ⟨x, hx, e, f.k h⟩
  refine ⟨ys, h1, h2, ?_⟩
  have := congrArg List.length h3
  rw [List.length_map, List.length_map, hpm.length_eq] at this
  exact this
def spMachine : Sp := fun vs H Q _ => ∃ (p g : Addr) (ls : List Nat) (n : Nat), vs = [.ref p, .str ⟨ls.toArray⟩, .int (n : Int)] ∧ Pl H p g ∧ ls ≠ [] ∧ ls.length ≤ 1000 ∧ 0 < n ∧ n ≤ 20 ∧
  ∀ (v : V) (m : Mach) (H' : Hp), Fx [p, g] H H' → Pl H' p g → rMach H' v m → MOk m → m.1 ≤ n → (∀ s ∈ m.2.2, s.2.1 ∈ ls) → m.2.2.length ≤ 10 → m.2.1.length ≤ 20 → Q v H'
section
variable {P : Program} {w : World} {K : PySem.W.Frag} {g : Str → Option Value} {base : Heap}
theorem ok_law_machine (T : Txt K g) : FnOk P w K g base CX0 2 T.d_law_machine.f T.d_law_machine.fd P_law_machine spMachine := by
  refine T.d_law_machine.F.ok sc_law_machine (fun vs H Q E h => ?_) (fun cdv A outer s H vs Q E hr h => ?_)
  · obtain ⟨_, _, _, _, rfl, _⟩ := h
    rfl
  · obtain ⟨p, g, ls, n, rfl, hP, hls, hl1, hn0, hn, kk⟩ := h
    have hu := hu_of hr
    refine ⟨_, (pss_cons (ps_set (i := 3) sc_law_machine.nd rfl (by first | exact Or.inl rfl | exact Or.inr rfl) (pe_op op_add pe_int (pe_call (ok_law_draw T) (hr.mono (by decide)) rfl T.d_law_draw.mg T.d_law_draw.kp T.d_law_draw.b .nil pass0 (pa_cons (pv 0) (pa_cons (pv 2) pa_nil)))))
    (pss_cons (ps_set (i := 4) sc_law_machine.nd rfl (by first | exact Or.inl rfl | exact Or.inr rfl) (pe_lst pa_nil))
    (pss_cons (ps_for PassesOwn.never rfl (pi_range1 rfl T.z_range (pa_cons (pe_call (ok_law_draw T) (hr.mono (by decide)) rfl T.d_law_draw.mg T.d_law_draw.kp T.d_law_draw.b .nil pass0 (pa_cons (pv 0) (pa_cons pe_int pa_nil))) pa_nil)) (pg_name (i := 5) sc_law_machine.nd rfl (by first | exact Or.inl rfl | exact Or.inr rfl))
      (pss_one (ps_expr (ke_bm (K := K) rfl PySem.F.plainAttrs_list PySem.F.slot_list_append PySem.F.type_list_append mt_append (pv 4) (pa_cons (pe_tup (pa_cons (pe_call (ok_law_draw T) (hr.mono (by decide)) rfl T.d_law_draw.mg T.d_law_draw.kp T.d_law_draw.b .nil pass0 (pa_cons (pv 0) (pa_cons (pv 3) pa_nil))) (pa_cons (pe_ix ix_str (pv 1) (pe_call (ok_law_draw T) (hr.mono (by decide)) rfl T.d_law_draw.mg T.d_law_draw.kp T.d_law_draw.b .nil pass0 (pa_cons (pv 0) (pa_cons (pe_callB kc_lenS (by rfl) T.z_len PySem.boot_len (pa_cons (pv 1) pa_nil)) pa_nil))) (fun _ _ => rfl)) (pa_cons (pe_call (ok_law_draw T) (hr.mono (by decide)) rfl T.d_law_draw.mg T.d_law_draw.kp T.d_law_draw.b .nil pass0 (pa_cons (pv 0) (pa_cons (pv 3) pa_nil))) pa_nil)))) pa_nil)))))
    (pss_cons (ps_setLc (i := 6) (own := [("q", 7)]) rfl sc_law_machine.nd rfl rfl (sw_true rfl rfl rfl (by decide +kernel)) (pi_range1 rfl T.z_range (pa_cons (pv 3) pa_nil)) (blkOk_by (N := N_law_machine) (sc := defScope s_law_machine) (by decide +kernel)) (fun _ _ _ _ _ => by exact (pg_name (i := 7) sc_law_machine.nd rfl (by first | exact Or.inl rfl | exact Or.inr rfl))) (fun _ _ _ _ _ => by exact pts_one (pt_cmpR op_gt (pe_call (ok_law_draw T) (hr.mono (by decide)) rfl T.d_law_draw.mg T.d_law_draw.kp T.d_law_draw.b .nil pass0 (pa_cons (pv 0) (pa_cons pe_int pa_nil))) pe_int (nomark _))) (fun _ _ _ _ _ => by exact (pv 7)))
    (pss_one (ps_ret (pe_tup (pa_cons (pv 3) (pa_cons (pe_callTy (kc_tuple (K := K) rfl) (by rfl) T.z_tuple (by decide +kernel) (pa_cons (pv 6) pa_nil)) (pa_cons (pe_callTy (kc_tuple (K := K) rfl) (by rfl) T.z_tuple (by decide +kernel) (pa_cons (pe_callB (kc_sortedSetT (K := K) (P := P) (w := w) rfl rfl rfl rfl) (by rfl) T.z_sorted (by decide +kernel) (pa_cons (pe_callTy (kc_setT (K := K) (P := P) (w := w) rfl rfl rfl rfl hr.units) (by rfl) T.z_set (by decide +kernel) (pa_cons (pv 4) pa_nil)) pa_nil)) pa_nil)) pa_nil)))))))))), ?_⟩
    refine ⟨_, rfl, _, rfl, p, g, n, rfl, hP, hn0, by omega, fun r0 H1 f1 P1 hr0 => ⟨_, _, rfl, rfl, ?_⟩⟩
    obtain ⟨st, est⟩ : ∃ st : Nat, (1 + (r0 : Int)) = (st : Int) := ⟨r0 + 1, by omega⟩
    have hst0 : 0 < st := by omega
    have hstn : st ≤ n := by omega
    refine ⟨Nat.zero_le _, fun S hS => ?_⟩
    have hpos : 0 < ls.length := List.length_pos_iff.mpr hls
    have nS := P1.nw hS
    have hS0 : H S = none := f1.fr nS hS
    have f2 := f1.mu (o := .lst []) hS0
    have P2 : Pl (upd H1 S (.lst [])) p g := P1.put nS
    refine ⟨_, rfl, p, g, 8, rfl, P2, by decide, by decide, fun r H3 f3 P3 hr8 => ⟨_, rfl, by omega, by omega, ?_⟩⟩
    have hcn : (r : Int).toNat = r := by omega
    rw [hcn]
    refine for_range (lo := 0) (n := r) (fun i σ' H' => ∃ (vs : List V) (sts : List (Nat × Nat × Nat)) (o5 o6 o7 : Option V), σ' = [some (.ref p), some (.str ⟨ls.toArray⟩), some (.int (n : Int)), some (.int (1 + (r0 : Int))), some (.ref S), o5, o6, o7] ∧ Fx [p, g] H H' ∧ Pl H' p g ∧ H' S = some (.lst vs) ∧ Al rStep H' vs sts ∧
      sts.length = i ∧ ∀ s ∈ sts, s.1 < st ∧ s.2.2 < st ∧ s.2.1 ∈ ls) ⟨[], [], none, none, none, rfl, f2.trans f3, P3, f3.keep _ _ nS upd_same, .nil, rfl, fun _ z => nomatch z⟩ ?_ ?_
    · rintro i σ' H' hi ⟨vs, sts, o5, o6, o7, rfl, e, P', hSv, al, hl, hok⟩
      refine ⟨_, rfl, .inl ⟨rfl, _, SqL.of hSv⟩, _, rfl, _, rfl, p, g, st, by rw [est]; rfl, P', hst0, by omega, fun a H4 f4 P4 ha => ?_⟩
      refine ⟨_, rfl, _, rfl, _, rfl, _, rfl, by rw [slen, sizeLine_eq]; omega, p, g, ls.length, by rw [slen]; rfl, P4, hpos, by omega, fun b H5 f5 P5 hb => ?_⟩
      have hlb : ls[b]? = some ls[b] := List.getElem?_eq_getElem hb
      refine ⟨_, _, ls[b], rfl, rfl, by rw [slen, sizeLine_eq]; omega, atI_nat hlb, _, rfl, _, rfl, p, g, st, by rw [est]; rfl, P5, hst0, by omega, fun c H6 f6 P6 hc => ?_⟩
      refine ⟨by show 3 ≤ sizeLine; decide, fun U hU => ?_⟩
      have f46 := (f4.trans f5).trans f6
      have hSv6 := f46.keep _ _ nS hSv
      have fU := Fe.new (o := .tup [.int (a : Int), s1 ls[b], .int (c : Int)]) hU
      have vl := al.len
      refine ⟨S, vs, _, rfl, rfl, fU.k hSv6, by rw [sizeLine_eq]; omega, ?_⟩
      have fS : Fx [S] (upd H6 U (.tup [.int (a : Int), s1 ls[b], .int (c : Int)])) _ := Fx.put (o := .lst (vs ++ [.ref U])) (fU.k hSv6) (List.mem_singleton.mpr rfl) (fun _ z => nomatch z)
      refine ⟨vs ++ [.ref U], sts ++ [(a, ls[b], c)], _, _, _, rfl, ((e.trans f46).trans fU.to).mu hS0, (P6.keep fU).put nS, upd_same, Al.snoc ⟨U, _, _, _, rfl, fS.tups _ _ upd_same, rfl, rfl, rfl⟩ (Al.mo fS (Al.mo fU (Al.mo f46 al))), by rw [List.length_append, List.length_singleton]; omega, fun s hs => ?_⟩
      rcases List.mem_append.mp hs with hs | hs
      · exact hok s hs
      · rw [List.mem_singleton.mp hs]; exact ⟨ha, hc, List.getElem_mem hb⟩
    · rintro σ' H' ⟨vs, sts, o5, o6, o7, rfl, e, P', hSv, al, hl, hok⟩
      refine ⟨_, rfl, _, rfl, by omega, by omega, fun D hD => ?_⟩
      have hcs : (1 + (r0 : Int)).toNat = st := by omega
      rw [hcs]
      have nD := P'.nw hD
      have hDS : S ≠ D := ne_of_none hSv hD
      refine lc_range (fun i H2 => ∃ l : List Nat, Fx [p, g] H' H2 ∧ Pl H2 p g ∧ H2 D = some (.lst (l.map vN)) ∧ (∀ q ∈ l, q < st) ∧ l.length ≤ i) ⟨[], Fx.to (Fe.new hD), P'.put nD, upd_same, (fun _ z => nomatch z), Nat.le_refl _⟩ ?_ ?_
      · rintro i H2 hi ⟨l, f2, P2, hDl, hlt, hll⟩
        refine ⟨rfl, _, rfl, p, g, 5, rfl, P2, by decide, by decide, fun k H3 f3 P3 hk => ⟨_, _, rfl, rfl, _, rfl, ?_⟩⟩
        have hD3 := f3.keep _ _ nD hDl
        refine ite2 (fun _ => ?_) (fun _ => ?_)
        · refine ⟨_, rfl, l.map vN, hD3, by rw [List.length_map, sizeLine_eq]; omega, l ++ [i], (f2.trans f3).mu hD, P3.put nD, ?_, fun q hq => ?_, by rw [List.length_append, List.length_singleton]; omega⟩
          · rw [upd_same, List.map_append, Int.zero_add]; rfl
          · rcases List.mem_append.mp hq with hq | hq
            · exact hlt q hq
            · rw [List.mem_singleton.mp hq]; exact hi
        · exact ⟨l, f2.trans f3, P3, hD3, hlt, by omega⟩
      · rintro H2 ⟨l, f2, P2, hDl, hlt, hll⟩
        have hS2 := f2.keep _ _ nS hSv
        refine ⟨_, rfl, _, rfl, D, _, rfl, .inl ⟨SqL.of hDl, fun U hU => ?_⟩⟩
        have fU := Fe.new (o := .tup (l.map vN)) hU
        have hSU := fU.k hS2
        have alU := Al.mo fU (Al.mo f2 al)
        obtain ⟨ks, rfl, hkl, hk⟩ := tl_of stK (fun v x h => step_key h) alU
        refine ⟨_, rfl, S, ks, rfl, SqL.of hSU, fun p hp => ?_, by omega, fun a L ha hsub hlen => ?_⟩
        · obtain ⟨_, _, _, h⟩ := hk p hp
          exact SqT.of h
        have g1 := Fe.new (o := SetMO P w a L) ha
        refine ⟨a, L, [false, true, false], rfl, upd_same, fun p hp => ?_, by decide, fun L' q hpm hq => ?_⟩
        · obtain ⟨s, _, e, h⟩ := hk p (hsub p hp)
          exact ⟨SqT.of (g1.k h), by rw [e]; rfl⟩
        have g2 := g1.trans (Fe.new (o := .lst (L'.map fun q => V.ref q.1)) hq)
        refine ⟨q, _, rfl, .inl ⟨SqL.of upd_same, fun u hu => ?_⟩⟩
        have f4 := g2.trans (Fe.new (o := .tup (L'.map fun q => V.ref q.1)) hu)
        obtain ⟨sl, hal, hsub2, hlen2⟩ := steps_back hk hsub hpm f4
        have hv : rT rStep _ (.ref u) sl := ⟨u, _, rfl, upd_same, hal⟩
        refine ⟨by show 3 ≤ sizeLine; decide, fun R hR => ?_⟩
        have fR := Fe.new (o := .tup [.int (1 + (r0 : Int)), .ref U, .ref u]) hR
        refine kk _ (st, l, sl) _ ((((e.trans f2).trans fU.to).trans f4.to).trans fR.to) (((P2.keep fU).keep f4).keep fR) ⟨R, _, _, _, rfl, upd_same, congrArg V.int est, ?_, Mo.mo (r := rT rStep) fR hv⟩ ⟨hst0, by show st ≤ 1000; omega, hlt, fun s hs => ⟨(hok s (hsub2 s hs)).1, (hok s (hsub2 s hs)).2.1⟩, by show sl.length ≤ 100; omega⟩ hstn (fun s hs => (hok s (hsub2 s hs)).2.2) (by show sl.length ≤ 10; omega) (by show l.length ≤ 20; omega)
        exact ⟨U, _, rfl, fR.k (f4.k upd_same), Al.ofNats l⟩
end
end Fm
namespace Fm
open PySem L2
/-- a list whose own address is not in N -/
def rLa (N : List Addr) {α : Type} (r : Rp α) : Rp (List α) := fun H v l => ∃ a xs, v = .ref a ∧ H a = some (.lst xs) ∧ Al r H xs l ∧ a ∉ N
class Ma (N : List Addr) {α : Type} (r : Rp α) : Prop where
  ma : ∀ {H H' : Hp} {v : V} {x : α}, Fx N H H' → r H v x → r H' v x
instance (priority := low) {N : List Addr} {α : Type} {r : Rp α} [Mo r] : Ma N r := ⟨fun f h => Mo.mo (r := r) f h⟩
theorem Al.ma {N : List Addr} {α : Type} {r : Rp α} [Ma N r] {H H' : Hp} {xs : List V} {l : List α} (f : Fx N H H') (h : Al r H xs l) : Al r H' xs l := L2.Paired.mapP h fun _ _ q => Ma.ma (r := r) f q
instance {N : List Addr} {α : Type} {r : Rp α} [Ma N r] : Ma N (rLa N r) := ⟨fun f ⟨a, xs, e, h, h1, n⟩ => ⟨a, xs, e, f.keep _ _ n h, Al.ma f h1, n⟩⟩
theorem Al.imp {α : Type} {r r' : Rp α} {H : Hp} {xs : List V} {l : List α} (h : Al r H xs l) (q : ∀ v x, r H v x → r' H v x) : Al r' H xs l := L2.Paired.mapP h fun _ _ z => q _ _ z
theorem rLa.to {N : List Addr} {α : Type} {r r' : Rp α} {H : Hp} {v : V} {l : List α} (h : rLa N r H v l) (q : ∀ v x, r H v x → r' H v x) : rL r' H v l := by
  obtain ⟨a, xs, e, h1, h2, _⟩ := h
  exact ⟨a, xs, e, h1, h2.imp q⟩
theorem rLa.more {N : List Addr} {α : Type} {r r' : Rp α} {H : Hp} {v : V} {l : List α} {T : Addr} (h : rLa N r H v l) (hT : H T = none) (q : ∀ v x, r H v x → r' H v x) : rLa (N ++ [T]) r' H v l := by
  obtain ⟨a, xs, e, h1, h2, n⟩ := h
  refine ⟨a, xs, e, h1, h2.imp q, fun z => ?_⟩
  rcases List.mem_append.mp z with z | z
  · exact n z
  · rw [List.mem_singleton.mp z, hT] at h1; cases h1
theorem rLa.sub {N N' : List Addr} {α : Type} {r r' : Rp α} {H : Hp} {v : V} {l : List α} (h : rLa N r H v l) (s : ∀ x ∈ N', x ∈ N) (q : ∀ v x, r H v x → r' H v x) : rLa N' r' H v l := by
  obtain ⟨a, xs, e, h1, h2, n⟩ := h
  exact ⟨a, xs, e, h1, h2.imp q, fun z => n (s _ z)⟩
def rP4 {α β γ δ : Type} (r : Rp α) (q : Rp β) (t : Rp γ) (u : Rp δ) : Rp (α × β × γ × δ) := fun H v p => ∃ a x y z w, v = .ref a ∧ H a = some (.tup [x, y, z, w]) ∧ r H x p.1 ∧ q H y p.2.1 ∧ t H z p.2.2.1 ∧ u H w p.2.2.2
instance {α β γ δ : Type} {r : Rp α} {q : Rp β} {t : Rp γ} {u : Rp δ} [Me r] [Me q] [Me t] [Me u] : Me (rP4 r q t u) :=
  ⟨fun f ⟨a, x, y, z, w, e, h, h1, h2, h3, h4⟩ => ⟨a, x, y, z, w, e, f.k h, Me.me (r := r) f h1, Me.me (r := q) f h2, Me.me (r := t) f h3, Me.me (r := u) f h4⟩⟩
instance {N : List Addr} {α β γ δ : Type} {r : Rp α} {q : Rp β} {t : Rp γ} {u : Rp δ} [Ma N r] [Ma N q] [Ma N t] [Ma N u] : Ma N (rP4 r q t u) :=
  ⟨fun f ⟨a, x, y, z, w, e, h, h1, h2, h3, h4⟩ => ⟨a, x, y, z, w, e, f.tups _ _ h, Ma.ma (r := r) f h1, Ma.ma (r := q) f h2, Ma.ma (r := t) f h3, Ma.ma (r := u) f h4⟩⟩
theorem rP4.imp {α β γ δ : Type} {r : Rp α} {q : Rp β} {t : Rp γ} {u u' : Rp δ} {H : Hp} {v : V} {p : α × β × γ × δ} (h : rP4 r q t u H v p) (k : ∀ v x, u H v x → u' H v x) : rP4 r q t u' H v p := by
  obtain ⟨a, x, y, z, w, e, h, h1, h2, h3, h4⟩ := h
  exact ⟨a, x, y, z, w, e, h, h1, h2, h3, k _ _ h4⟩
abbrev Tab := List (List Nat)
abbrev Op := List Nat × List Nat × Nat × Tab
abbrev rOp : Rp Op := rP4 rS rS rN (rL (rL rN))
/-- the edits and the letters that stay -/
def alle (b : Book) : List (List Nat × List Nat × Nat) := b.2 ++ b.1.map fun x => ([x], [x], 0)
/-- an operation that reads r at the cost d, from q to p -/
def OpS (b : Book) (m : Mach) (r : List Nat) (d q p : Nat) : Prop := ∃ w, (r, w, d) ∈ alle b ∧ Lead (Em m) w q p
/-- whereto what is written leads -/
structure TabI (m : Mach) (w : List Nat) (k : Nat) (tab : Tab) : Prop where
  len : tab.length = k
  ok : ∀ (q : Nat) (row : List Nat), tab[q]? = some row → ∀ p, p ∈ row ↔ Lead (Em m) w q p
  sm : ∀ (q : Nat) (row : List Nat), tab[q]? = some row → row.length ≤ 100
structure OpsI (b : Book) (m : Mach) (k : Nat) (ops : List Op) : Prop where
  len : ops.length = k
  ok : ∀ (i : Nat) (op : Op), ops[i]? = some op → (alle b)[i]? = some (op.1, op.2.1, op.2.2.1) ∧ TabI m op.2.1 m.1 op.2.2.2
def OpsOk (b : Book) (m : Mach) (ops : List Op) : Prop := OpsI b m (alle b).length ops
def spOps : Sp := fun vs H Q _ => ∃ (b : Book) (m : Mach) (v1 v2 : V), vs = [v1, v2] ∧ rBook H v1 b ∧ rMach H v2 m ∧ POk b m ∧ m.2.2.length < 60 ∧ ∀ (v : V) (ops : List Op) (H' : Hp), Fe H H' → rL rOp H' v ops → OpsOk b m ops → Q v H'
theorem Fx.of_fx {H H1 H' : Hp} {R : Addr} (e : Fe H H1) (f : Fx [R] H1 H') (hR : H R = none) : Fe H H' :=
  ⟨fun a o _ h => f.keep a o (fun z => by rw [List.mem_singleton.mp z, hR] at h; cases h) (e.k h), fun a xs h => f.tups a xs (e.k h)⟩
def nxtH (sts : List (Nat × Nat × Nat)) (l : List Nat) (c : Nat) : List Nat := (sts.filter fun s => decide (s.1 ∈ l) && decide (s.2.1 = c)).map (·.2.2)
theorem nxtH_succ (sts : List (Nat × Nat × Nat)) (l : List Nat) (c i : Nat) (s : Nat × Nat × Nat) (h : sts[i]? = some s) : nxtH (sts.take (i + 1)) l c = nxtH (sts.take i) l c ++ (if s.1 ∈ l ∧ s.2.1 = c then [s.2.2] else []) := by
  unfold nxtH
  rw [List.take_add_one, h, List.filter_append, List.map_append]
  refine congrArg (fun z => List.map (fun x : Nat × Nat × Nat => x.2.2) (List.filter (fun s => decide (s.1 ∈ l) && decide (s.2.1 = c)) (List.take i sts)) ++ z) ?_
  show List.map _ (List.filter _ [s]) = _
  rw [List.filter_cons]
  by_cases q : s.1 ∈ l ∧ s.2.1 = c
  · rw [if_pos q, if_pos (by rw [decide_eq_true q.1, decide_eq_true q.2]; rfl)]; rfl
  · rw [if_neg q, if_neg]
    · rfl
    · rw [Bool.and_eq_true, decide_eq_true_eq, decide_eq_true_eq]; exact q
theorem nxtH_mem {sts : List (Nat × Nat × Nat)} {l : List Nat} {c p : Nat} : p ∈ nxtH sts l c ↔ ∃ q, q ∈ l ∧ (q, c, p) ∈ sts := by
  unfold nxtH
  rw [List.mem_map]
  constructor
  · rintro ⟨s, h1, rfl⟩
    obtain ⟨h2, h3⟩ := List.mem_filter.mp h1
    rw [Bool.and_eq_true, decide_eq_true_eq, decide_eq_true_eq] at h3
    exact ⟨s.1, h3.1, by rw [← h3.2]; exact h2⟩
  · rintro ⟨q, h1, h2⟩
    exact ⟨(q, c, p), List.mem_filter.mpr ⟨h2, by rw [Bool.and_eq_true, decide_eq_true_eq, decide_eq_true_eq]; exact ⟨h1, rfl⟩⟩, rfl⟩
theorem nxtH_len (sts : List (Nat × Nat × Nat)) (l : List Nat) (c : Nat) : (nxtH sts l c).length ≤ sts.length := by
  unfold nxtH
  rw [List.length_map]
  exact List.length_filter_le _ _
/-- a sorted set of naturals, back -/
theorem set_back {l : List Nat} {ns' : List Int} (hm : ∀ k : Int, k ∈ ns' ↔ decide (k ∈ l.map fun n : Nat => (n : Int)) = true) : ∃ l' : List Nat, ns' = l'.map (fun n : Nat => (n : Int)) ∧ ∀ p, p ∈ l' ↔ p ∈ l := by
  have h0 : ∀ x ∈ ns', 0 ≤ x := fun x hx => by
    have := (hm x).mp hx
    rw [decide_eq_true_eq] at this
    obtain ⟨n, _, rfl⟩ := List.mem_map.mp this
    omega
  have e := ints_back h0
  refine ⟨_, e, fun p => ?_⟩
  have h1 := hm (p : Int)
  rw [decide_eq_true_eq] at h1
  constructor
  · intro h
    have : (p : Int) ∈ ns' := by rw [e]; exact List.mem_map.mpr ⟨p, h, rfl⟩
    obtain ⟨n, hn, en⟩ := List.mem_map.mp (h1.mp this)
    have : n = p := by omega
    exact this ▸ hn
  · intro h
    have := h1.mpr (List.mem_map.mpr ⟨p, h, rfl⟩)
    exact List.mem_map.mpr ⟨(p : Int), this, by omega⟩
section
variable {P : Program} {w : World} {K : PySem.W.Frag} {g : Str → Option Value} {base : Heap}
theorem ok_law_ops (T : Txt K g) : FnOk P w K g base CX0 1 T.d_law_ops.f T.d_law_ops.fd P_law_ops spOps := by
  refine T.d_law_ops.F.ok sc_law_ops (fun vs H Q E h => ?_) (fun cdv A outer s H vs Q E hr h => ?_)
  · obtain ⟨_, _, _, _, rfl, _⟩ := h
    rfl
  · obtain ⟨b, m, v1, v2, rfl, hb, hm, pok, hfew, kk⟩ := h
    have hu := hu_of hr
    refine ⟨_, (pss_cons (ps_asg (pv 1) (kg_tup (K := K) 3 rfl rfl (pgs_cons (pg_name (i := 2) sc_law_ops.nd rfl (by first | exact Or.inl rfl | exact Or.inr rfl)) (pgs_cons (pg_name (i := 3) sc_law_ops.nd rfl (by first | exact Or.inl rfl | exact Or.inr rfl)) (pgs_cons (pg_name (i := 4) sc_law_ops.nd rfl (by first | exact Or.inl rfl | exact Or.inr rfl)) pgs_nil)))))
    (pss_cons (ps_set (i := 5) sc_law_ops.nd rfl (by first | exact Or.inl rfl | exact Or.inr rfl) (pe_lst pa_nil))
    (pss_cons (ps_for PassesOwn.never rfl (ki_list (K := K) rfl (pe_op op_cat (pe_callTy (kc_list (K := K) rfl) (by rfl) T.z_list (by decide +kernel) (pa_cons (pe_ix (kx_tup (K := K) rfl) (pv 0) pe_int (fun _ _ => rfl)) pa_nil)) (pe_lc (own := [("x", 12)]) rfl sc_law_ops.nd (pi_str (pe_ix (kx_tup (K := K) rfl) (pv 0) pe_int (fun _ _ => rfl))) (blkOk_by (N := N_law_ops) (sc := defScope s_law_ops) (by decide +kernel)) (fun _ _ _ _ _ => by exact (pg_name (i := 12) sc_law_ops.nd rfl (by first | exact Or.inl rfl | exact Or.inr rfl))) (fun _ _ _ _ _ => by exact pts_nil) (fun _ _ _ _ _ => by exact (pe_tup (pa_cons (pv 12) (pa_cons (pv 12) (pa_cons pe_int pa_nil)))))))) (kg_tup (K := K) 3 rfl rfl (pgs_cons (pg_name (i := 6) sc_law_ops.nd rfl (by first | exact Or.inl rfl | exact Or.inr rfl)) (pgs_cons (pg_name (i := 7) sc_law_ops.nd rfl (by first | exact Or.inl rfl | exact Or.inr rfl)) (pgs_cons (pg_name (i := 8) sc_law_ops.nd rfl (by first | exact Or.inl rfl | exact Or.inr rfl)) pgs_nil))))
      (pss_cons (ps_set (i := 9) sc_law_ops.nd rfl (by first | exact Or.inl rfl | exact Or.inr rfl) (pe_lst pa_nil))
      (pss_cons (ps_for PassesOwn.never rfl (pi_range1 rfl T.z_range (pa_cons (pv 2) pa_nil)) (pg_name (i := 10) sc_law_ops.nd rfl (by first | exact Or.inl rfl | exact Or.inr rfl))
        (pss_cons (ps_set (i := 11) sc_law_ops.nd rfl (by first | exact Or.inl rfl | exact Or.inr rfl) (pe_lst (pa_cons (pv 10) pa_nil)))
        (pss_cons (ps_for PassesOwn.never rfl (pi_str (pv 7)) (pg_name (i := 12) sc_law_ops.nd rfl (by first | exact Or.inl rfl | exact Or.inr rfl))
          (pss_one (ps_set (i := 11) sc_law_ops.nd rfl (by first | exact Or.inl rfl | exact Or.inr rfl) (pe_callB (kc_sortedSet (w := w) rfl rfl) (by rfl) T.z_sorted (by decide +kernel) (pa_cons (pe_callTy (kc_setI (K := K) (w := w) rfl rfl rfl) (by rfl) T.z_set (by decide +kernel) (pa_cons (pe_lc (own := [("step", 13)]) rfl sc_law_ops.nd (ki_tup (K := K) rfl (pv 4)) (blkOk_by (N := N_law_ops) (sc := defScope s_law_ops) (by decide +kernel)) (fun _ _ _ _ _ => by exact (pg_name (i := 13) sc_law_ops.nd rfl (by first | exact Or.inl rfl | exact Or.inr rfl))) (fun _ _ _ _ _ => by exact pts_one (PW.pt (pw_and (pt_cmpR (ko_in (K := K) rfl) (pe_ix (kx_tup (K := K) rfl) (pv 13) pe_int (fun _ _ => rfl)) (pv 11) (by rfl)) (pw_and1 (pt_cmpR op_eq (pe_ix (kx_tup (K := K) rfl) (pv 13) pe_int (fun _ _ => rfl)) (pv 12) (nomark _)))))) (fun _ _ _ _ _ => by exact (pe_ix (kx_tup (K := K) rfl) (pv 13) pe_int (fun _ _ => rfl)))) pa_nil)) pa_nil)))))
        (pss_one (ps_expr (ke_bm (K := K) rfl PySem.F.plainAttrs_list PySem.F.slot_list_append PySem.F.type_list_append mt_append (pv 9) (pa_cons (pv 11) pa_nil)))))))
      (pss_one (ps_expr (ke_bm (K := K) rfl PySem.F.plainAttrs_list PySem.F.slot_list_append PySem.F.type_list_append mt_append (pv 5) (pa_cons (pe_tup (pa_cons (pv 6) (pa_cons (pv 7) (pa_cons (pv 8) (pa_cons (pv 9) pa_nil))))) pa_nil)))))))
    (pss_one (ps_ret (pv 5)))))), ?_⟩
    obtain ⟨ma, vst, ven, vsp, rfl, hma, rfl, hen, hsp⟩ := id hm
    obtain ⟨sa, sxs, rfl, hsa, hsal⟩ := id hsp
    obtain ⟨bk, vl, ve, rfl, hbk, rfl, hed⟩ := id hb
    obtain ⟨c, eds, rfl, hc, heds⟩ := id hed
    refine ⟨_, rfl, ma, _, rfl, SqT.of hma, rfl, _, _, rfl, _, _, rfl, _, _, rfl, rfl, ?_⟩
    refine ⟨Nat.zero_le _, fun R hR => ?_⟩
    have gR := Fe.new (o := .lst []) hR
    refine ⟨_, rfl, bk, _, _, _, rfl, rfl, SqT.of (gR.k hbk), atI_nat (j := 1) rfl, c, _, rfl, .inr (SqT.of (gR.k hc)), fun L1 hL1 => ?_⟩
    have g1 := Fe.new (o := .lst eds) hL1
    have g01 := gR.trans g1
    refine ⟨_, rfl, bk, _, _, _, rfl, rfl, SqT.of (g01.k hbk), atI_nat (j := 0) rfl, _, rfl, fun L2 hL2 => lc_by b.1.length (fun i H' => Cmp (rP3 rS rS rN) _ L2 ((b.1.take i).map fun x => ([x], [x], 0)) H') (Cmp.start hL2) (fun i H' hi c => ?_) (fun H' c => ?_) ?_ ?_⟩
    · show i < (b.1.toArray).size
      rw [List.size_toArray]; exact hi
    · show (b.1.toArray).size ≤ b.1.length
      rw [List.size_toArray]; exact Nat.le_refl _
    · intro i y H' H5 hi c hyd
      obtain ⟨rfl, x, hx, rfl⟩ := hyd
      have hx' : b.1.toArray[i]? = some x := hx
      rw [List.getElem?_toArray] at hx'
      have hlb := pok.bk.fewL
      refine ⟨rfl, _, rfl, _, rfl, by show 3 ≤ sizeLine; decide, fun U hU => ?_⟩
      have e : (b.1.take (i + 1)).map (fun x => (([x], [x], 0) : List Nat × List Nat × Nat)) = (b.1.take i).map (fun x => ([x], [x], 0)) ++ [([x], [x], 0)] := by
        rw [List.take_add_one, hx', List.map_append]; rfl
      rw [e]
      exact c.add (x := ([x], [x], 0)) (y := .ref U) (by rw [List.length_map, List.length_take]; omega) (Fe.new hU) ⟨U, _, _, _, rfl, upd_same, rfl, rfl, rfl⟩
    · intro H2 c2
      rw [List.take_length] at c2
      obtain ⟨_, zs, eL, hL2v, alz⟩ := c2.rl
      cases eL
      have hzl := alz.len
      rw [List.length_map] at hzl
      have hlb := pok.bk.fewL
      have hel := pok.bk.few
      have hedl := heds.len
      have g02 := g01.trans c2.fe
      refine ⟨L1, L2, eds, zs, rfl, rfl, c2.fe.k upd_same, hL2v, by rw [sizeLine_eq]; omega, fun L hL => ?_⟩
      have gL := Fe.new (o := .lst (eds ++ zs)) hL
      have g0L := g02.trans gL
      have hLl : (upd H2 L (.lst (eds ++ zs))) L = some (.lst (eds ++ zs)) := upd_same
      have hRl : (upd H2 L (.lst (eds ++ zs))) R = some (.lst []) := gL.k (c2.fe.k (g1.k upd_same))
      have all : Al (rP3 rS rS rN) (upd H2 L (.lst (eds ++ zs))) (eds ++ zs) (alle b) := Al.app (Al.mo g0L heds) (Al.mo gL alz)
      have nLR : L ≠ R := (ne_of_none (c2.fe.k (g1.k upd_same)) hL).symm
      have hall : (eds ++ zs).length = (alle b).length := all.len
      have hal200 : (alle b).length ≤ 200 := by unfold alle; rw [List.length_append, List.length_map]; omega
      generalize upd H2 L (.lst (eds ++ zs)) = HL at g0L hLl hRl all
      refine ⟨L, rfl, ⟨_, SqL.of hLl⟩, for_lst (xs := eds ++ zs) (fun i σ' H' => ∃ (vs : List V) (ops : List Op) (o6 o7 o8 o9 o10 o11 o12 o13 : Option V), σ' = [some (.ref bk), some (.ref ma), some (vN m.1), some ven, some (.ref sa), some (.ref R), o6, o7, o8, o9, o10, o11, o12, o13] ∧ Fx [R] HL H' ∧ H' R = some (.lst vs) ∧
        Al (rP4 rS rS rN (rLa [R] (rLa [R] rN))) H' vs ops ∧ OpsI b m i ops) ⟨[], [], _, _, _, _, _, _, _, _, rfl, Fx.refl _ _, hRl, .nil, rfl, fun i op h => nomatch h⟩ (fun i σ' H' _ ⟨_, _, _, _, _, _, _, _, _, _, _, e, _⟩ => e.keep _ _ (fun z => nLR (List.mem_singleton.mp z)) hLl) ?_ ?_⟩
      · rintro i xv σ' H' hx ⟨vs, ops, o6, o7, o8, o9, o10, o11, o12, o13, rfl, f, hRv, al, oi⟩
        have hi : i < (alle b).length := by rw [← hall]; exact (List.getElem?_eq_some_iff.mp hx).1
        obtain ⟨e, he, hxr⟩ := all.get hx
        have hxr' := Mo.mo (r := rP3 rS rS rN) f hxr
        obtain ⟨u, x1, x2, x3, rfl, hu2, rfl, rfl, rfl⟩ := id hxr'
        refine ⟨u, _, rfl, SqT.of hu2, rfl, _, _, rfl, _, _, rfl, _, _, rfl, rfl, ?_⟩
        -- table = []
        refine ⟨Nat.zero_le _, fun T0 hT => ?_⟩
        have gT := Fe.new (o := .lst []) hT
        have nTR : T0 ≠ R := (ne_of_none hRv hT).symm
        have hTL : HL T0 = none := f.fr (fun z => nTR (List.mem_singleton.mp z)) hT
        have hsaL := g0L.k hsa
        refine ⟨_, rfl, _, rfl, by have := pok.few; omega, by have := pok.few; omega, ?_⟩
        have hcm : (m.1 : Int).toNat = m.1 := by omega
        rw [hcm]
        refine for_range (lo := 0) (n := m.1) (fun j σ' H2 => ∃ (ts : List V) (tab : Tab) (o10 o11 o12 o13 : Option V), σ' = [some (.ref bk), some (.ref ma), some (vN m.1), some ven, some (.ref sa), some (.ref R), some (.str ⟨e.1.toArray⟩), some (.str ⟨e.2.1.toArray⟩), some (vN e.2.2), some (.ref T0), o10, o11, o12, o13] ∧ Fx [R] HL H2 ∧ H2 R = some (.lst vs) ∧
          Al (rP4 rS rS rN (rLa [R, T0] (rLa [R, T0] rN))) H2 vs ops ∧ H2 T0 = some (.lst ts) ∧ Al (rLa [R, T0] rN) H2 ts tab ∧ TabI m e.2.1 j tab) ⟨[], [], _, _, _, _, rfl, f.trans gT.to, gT.k hRv, Al.ma (N := [R, T0]) gT.to (al.imp fun v x h => rP4.imp h fun v x h => rLa.more h hT fun v x h => rLa.more h hT fun _ _ h => h), upd_same, .nil, rfl, (fun q row h => nomatch h), fun q row h => nomatch h⟩ ?_ ?_
        · rintro j σ' H2 hj ⟨ts, tab, o10, o11, o12, o13, rfl, f2, hR2, al2, hT2, tal, ti⟩
          refine ⟨_, rfl, by show 1 ≤ sizeLine; decide, fun hd hhd => ?_⟩
          have gh := Fe.new (o := .lst [.int (0 + (j : Int))]) hhd
          have nhd : hd ∉ [R, T0] := fun z => by
            rcases List.mem_cons.mp z with rfl | z
            · rw [hR2] at hhd; cases hhd
            · rw [List.mem_singleton.mp z, hT2] at hhd; cases hhd
          have hE0 : H2 = H2 := rfl
          refine ⟨_, rfl, _, rfl, for_str (l := e.2.1) (fun k σ' H3 => ∃ (hd : Addr) (l : List Nat) (o12 o13 : Option V), σ' = [some (.ref bk), some (.ref ma), some (vN m.1), some ven, some (.ref sa), some (.ref R), some (.str ⟨e.1.toArray⟩), some (.str ⟨e.2.1.toArray⟩), some (vN e.2.2), some (.ref T0), some (.int (0 + (j : Int))), some (.ref hd), o12, o13] ∧
            Fe H2 H3 ∧ H3 hd = some (.lst (l.map vN)) ∧ hd ∉ [R, T0] ∧ l.length ≤ 100 ∧ ∀ p, p ∈ l ↔ Lead (Em m) (e.2.1.take k) j p) ⟨hd, [j], _, _, rfl, gh, by rw [upd_same, Int.zero_add]; rfl, nhd, by simp, fun p => ?_⟩ ?_ ?_⟩
          · show p ∈ [j] ↔ j = p
            rw [List.mem_singleton]
            exact eq_comm
          · rintro k x σ' H3 hx ⟨hd, l, o12, o13, rfl, g3, hl, nhd, _, hm3⟩
            have hsa3 : H3 sa = some (.tup sxs) := g3.k (f2.tups _ _ hsaL)
            have sal3 : Al rStep H3 sxs m.2.2 := Al.mo g3 (Al.mo f2 (Al.mo g0L hsal))
            have hsl := hsal.len
            refine ⟨_, rfl, sa, rfl, ⟨_, SqT.of hsa3⟩, fun D hD => lc_tup (xs := sxs) (fun i H' => Cmp rN H3 D (nxtH (m.2.2.take i) l x) H') (Cmp.start hD) (fun i H' hi c => SqT.of (c.fe.k hsa3)) (fun i xv H' hx c => ?_) (fun H4 c => ?_)⟩
            · obtain ⟨s, hs, hsr⟩ := sal3.get hx
              have hsr' := Mo.mo (r := rStep) c.fe hsr
              obtain ⟨u2, y1, y2, y3, rfl, hu3, rfl, rfl, rfl⟩ := id hsr'
              rw [nxtH_succ m.2.2 l x i s hs]
              have hnl : (nxtH (m.2.2.take i) l x).length < 1000000 := by
                have h1 := nxtH_len (m.2.2.take i) l x
                rw [List.length_take] at h1
                omega
              refine ⟨rfl, _, rfl, u2, _, _, _, rfl, rfl, SqT.of hu3, atI_nat (j := 0) rfl, _, rfl, hd, _, rfl, .inl (SqL.of (c.fe.k hl)), rfl, flat_nats l, _, rfl, ?_⟩
              have einv : (if false = true then !inV (vN s.1) (l.map vN) else inV (vN s.1) (l.map vN)) = decide (s.1 ∈ l) := inV_nats s.1 l
              rw [einv]
              by_cases q1 : s.1 ∈ l
              · rw [decide_eq_true q1]
                refine iteT ⟨_, rfl, u2, _, _, _, rfl, rfl, SqT.of hu3, atI_nat (j := 1) rfl, _, rfl, rfl, _, rfl, ?_⟩
                by_cases q2 : s.2.1 = x
                · rw [decide_eq_true (by rw [q2]), if_pos ⟨q1, q2⟩]
                  refine iteT ⟨_, rfl, u2, _, _, _, rfl, rfl, SqT.of hu3, atI_nat (j := 2) rfl, c.add hnl (Fx.refl _ _) rfl⟩
                · rw [decide_eq_false (fun z => q2 (by have := V.str.inj z; have := congrArg Str.cps this; simpa using this)), if_neg (fun z => q2 z.2), List.append_nil]
                  exact iteF c
              · rw [decide_eq_false q1, if_neg (fun z => q1 z.1), List.append_nil]
                exact iteF (iteF c)
            · rw [hsl, List.take_length] at c
              obtain ⟨_, ds, eD, hDv, ald⟩ := c.rl
              cases eD
              have hdn := ald.nats
              subst hdn
              have hnl := nxtH_len m.2.2 l x
              refine ⟨D, (nxtH m.2.2 l x).map (fun n : Nat => (n : Int)), rfl, by rw [List.map_map]; exact SqL.of hDv, by rw [List.length_map]; omega, fun sa2 n hsa2 hn2 => ?_⟩
              rw [List.length_map] at hn2
              have gs := Fe.new (o := SetO w sa2 (fun j => decide (j ∈ (nxtH m.2.2 l x).map (fun n : Nat => (n : Int)))) n) hsa2
              refine ⟨sa2, _, n, rfl, upd_same, by omega, fun ns' q _ hmem hlen' hq => ?_⟩
              obtain ⟨l', rfl, hl'⟩ := set_back hmem
              rw [List.length_map] at hlen'
              have gq := Fe.new (o := .lst ((l'.map fun n : Nat => (n : Int)).map V.int)) hq
              have gall := ((g3.trans c.fe).trans gs).trans gq
              refine ⟨q, l', _, _, rfl, gall, by rw [upd_same, List.map_map]; rfl, fun z => ?_, by omega, fun p => ?_⟩
              · have hR6 := ((g3.trans c.fe).trans gs).k hR2
                have hT6 := ((g3.trans c.fe).trans gs).k hT2
                rcases List.mem_cons.mp z with rfl | z
                · rw [hR6] at hq; cases hq
                · rw [List.mem_singleton.mp z, hT6] at hq; cases hq
              · rw [hl' p, nxtH_mem, List.take_add_one, hx]
                show _ ↔ Lead (Em m) (e.2.1.take k ++ [x]) j p
                rw [Lead.snoc]
                constructor
                · rintro ⟨q, h1, h2⟩
                  exact ⟨q, (hm3 q).mp h1, h2⟩
                · rintro ⟨q, h1, h2⟩
                  exact ⟨q, (hm3 q).mpr h1, h2⟩
          · rintro σ' H3 ⟨hd, l, o12, o13, rfl, g3, hl, nhd, hl100, hm3⟩
            rw [List.take_length] at hm3
            have htl := tal.len
            have h60 := pok.few
            have hT3 := g3.k hT2
            have til := ti.len
            refine ⟨_, rfl, .inl ⟨rfl, _, SqL.of hT3⟩, _, rfl, T0, ts, _, rfl, rfl, hT3, by rw [sizeLine_eq]; omega, ?_⟩
            have fT : Fx [R, T0] H3 (upd H3 T0 (.lst (ts ++ [.ref hd]))) := Fx.put hT3 (by simp) (fun _ z => nomatch z)
            have al3 := Al.ma (N := [R, T0]) fT (Al.ma (N := [R, T0]) g3.to al2)
            have tal3 := Al.ma (N := [R, T0]) fT (Al.ma (N := [R, T0]) g3.to tal)
            refine ⟨ts ++ [.ref hd], tab ++ [l], _, _, _, _, rfl, (f2.trans g3.to).mu hTL, by rw [upd_ne nTR.symm]; exact g3.k hR2, al3, upd_same, Al.snoc ⟨hd, _, rfl, ?_, Al.ofNats l, nhd⟩ tal3, by rw [List.length_append, List.length_singleton, til], fun q row hrow p => ?_, fun q row hrow => ?_⟩
            · rw [List.getElem?_append] at hrow
              split at hrow
              · exact ti.ok q row hrow p
              · rename_i hq
                have hq2 : q = j := by
                  have := (List.getElem?_eq_some_iff.mp hrow).1
                  simp at this
                  omega
                subst hq2
                rw [til, Nat.sub_self] at hrow
                cases hrow
                exact hm3 p
            · rw [List.getElem?_append] at hrow
              split at hrow
              · exact ti.sm q row hrow
              · have h1 := List.mem_of_getElem? hrow
                rw [List.mem_singleton.mp h1]; exact hl100
            · rw [upd_ne (fun z => nhd (by rw [z]; simp))]; exact hl
        · rintro σ' H2 ⟨ts, tab, o10, o11, o12, o13, rfl, f2, hR2, al2, hT2, tal, ti⟩
          have hol := al2.len
          have oil := oi.len
          refine ⟨_, rfl, .inl ⟨rfl, _, SqL.of hR2⟩, _, rfl, _, rfl, _, rfl, _, rfl, by show 4 ≤ sizeLine; decide, fun U hU => ?_⟩
          have gU := Fe.new (o := .tup [.str ⟨e.1.toArray⟩, .str ⟨e.2.1.toArray⟩, vN e.2.2, .ref T0]) hU
          refine ⟨R, vs, _, rfl, rfl, gU.k hR2, by rw [sizeLine_eq]; omega, ?_⟩
          have fR : Fx [R] (upd H2 U (.tup [.str ⟨e.1.toArray⟩, .str ⟨e.2.1.toArray⟩, vN e.2.2, .ref T0])) _ := Fx.put (o := .lst (vs ++ [.ref U])) (gU.k hR2) (by simp) (fun _ z => nomatch z)
          have tal2 : rLa [R] (rLa [R] rN) H2 (.ref T0) tab := ⟨T0, ts, rfl, hT2, tal.imp fun v x h => rLa.sub h (by simp) fun _ _ h => h, fun z => nTR (List.mem_singleton.mp z)⟩
          have al4 : Al (rP4 rS rS rN (rLa [R] (rLa [R] rN))) H2 vs ops := al2.imp fun v x h => rP4.imp h fun v x h => rLa.sub h (by simp) fun v x h => rLa.sub h (by simp) fun _ _ h => h
          have al5 := Al.ma (N := [R]) fR (Al.ma (N := [R]) gU.to al4)
          refine ⟨vs ++ [.ref U], ops ++ [(e.1, e.2.1, e.2.2, tab)], _, _, _, _, _, _, _, _, rfl, (f2.trans gU.to).trans fR, upd_same, Al.snoc ⟨U, _, _, _, _, rfl, fR.tups _ _ upd_same, rfl, rfl, rfl, Ma.ma (r := rLa [R] (rLa [R] rN)) fR (Ma.ma (N := [R]) (r := rLa [R] (rLa [R] rN)) gU.to tal2)⟩ al5, by rw [List.length_append, List.length_singleton, oil], fun k op hop => ?_⟩
          rw [List.getElem?_append] at hop
          split at hop
          · exact oi.ok k op hop
          · rename_i hk
            have hk2 : k = i := by
              have := (List.getElem?_eq_some_iff.mp hop).1
              simp at this
              omega
            subst hk2
            rw [oil, Nat.sub_self] at hop
            cases hop
            exact ⟨he, ti⟩
      · rintro σ' H' ⟨vs, ops, o6, o7, o8, o9, o10, o11, o12, o13, rfl, f, hRv, al, oi⟩
        rw [hall] at oi
        exact ⟨_, rfl, kk _ ops H' (Fx.of_fx g0L f hR) ⟨R, vs, rfl, hRv, al.imp fun v x h => rP4.imp h fun v x h => rLa.to h fun v x h => rLa.to h fun _ _ h => h⟩ oi⟩
end
end Fm
namespace Fm
open PySem L2
/-- least sums by whole operations, begun at the place bg -/
inductive Wh (b : Book) (m : Mach) (t : List Nat) (bg : Nat) : Nat → Nat → Nat → Prop
  | beg : Wh b m t bg bg 0 0
  | sil {pl q c d p : Nat} : Wh b m t bg pl q c → OpS b m [] d q p → Wh b m t bg pl p (c + d)
  | rd {pl q c d p : Nat} {r : List Nat} : Wh b m t bg pl q c → r ≠ [] → OpS b m r d q p → (t.drop pl).take r.length = r → Wh b m t bg (pl + r.length) p (c + d)
def SilS (b : Book) (m : Mach) (q p d : Nat) : Prop := OpS b m [] d q p
/-- what comes to a place from places before k -/
def Ar (b : Book) (m : Mach) (t : List Nat) (bg k pl q c : Nat) : Prop := (pl = bg ∧ q = 0 ∧ c = 0) ∨ ∃ (pl' q' c' : Nat) (r : List Nat) (d : Nat), pl' < k ∧ Wh b m t bg pl' q' c' ∧ r ≠ [] ∧ OpS b m r d q' q ∧ (t.drop pl').take r.length = r ∧ pl = pl' + r.length ∧ c = c' + d
theorem wh_cl {b : Book} {m : Mach} {t : List Nat} {bg pl q c : Nat} : Wh b m t bg pl q c ↔ Cl (SilS b m) (Ar b m t bg pl pl) q c := by
  constructor
  · intro h
    induction h with
    | beg => exact .beg (.inl ⟨rfl, rfl, rfl⟩)
    | sil _ s ih => exact .step ih s
    | @rd pl q c d p r h hr o ht _ =>
      have : 0 < r.length := List.length_pos_iff.mpr hr
      exact .beg (.inr ⟨pl, q, c, r, d, by omega, h, hr, o, ht, rfl, rfl⟩)
  · intro h
    induction h with
    | beg h =>
      rcases h with ⟨rfl, rfl, rfl⟩ | ⟨pl', q', c', r, d, _, hw, hr, o, ht, rfl, rfl⟩
      · exact .beg
      · exact .rd hw hr o ht
    | step _ s ih => exact .sil ih s
theorem wh_ge {b : Book} {m : Mach} {t : List Nat} {bg pl q c : Nat} (h : Wh b m t bg pl q c) : bg ≤ pl := by
  induction h with
  | beg => exact Nat.le_refl _
  | sil _ _ ih => exact ih
  | rd _ _ _ _ ih => omega
theorem ops_lt {b : Book} {m : Mach} (ok : MOk m) {r : List Nat} {d q p : Nat} (hq : q < m.1) (o : OpS b m r d q p) : p < m.1 := by
  obtain ⟨w, _, h⟩ := o
  exact lead_em_lt ok hq h
theorem wh_lt {b : Book} {m : Mach} (ok : MOk m) {t : List Nat} {bg pl q c : Nat} (h : Wh b m t bg pl q c) : q < m.1 := by
  induction h with
  | beg => exact ok.pos
  | sil _ o ih => exact ops_lt ok ih o
  | rd _ _ o _ ih => exact ops_lt ok ih o
/-- the operations' table and OpS -/
theorem OpsOk.to {b : Book} {m : Mach} {ops : List Op} (o : OpsOk b m ops) {i : Nat} {op : Op} (h : ops[i]? = some op) {q p : Nat} {row : List Nat} (hr : op.2.2.2[q]? = some row) (hp : p ∈ row) : OpS b m op.1 op.2.2.1 q p := by
  obtain ⟨h1, h2⟩ := o.ok i op h
  exact ⟨op.2.1, List.mem_of_getElem? h1, (h2.ok q row hr p).mp hp⟩
theorem OpsOk.from_ {b : Book} {m : Mach} {ops : List Op} (o : OpsOk b m ops) {r : List Nat} {d q p : Nat} (hq : q < m.1) (h : OpS b m r d q p) : ∃ (i : Nat) (op : Op) (row : List Nat), ops[i]? = some op ∧ op.1 = r ∧ op.2.2.1 = d ∧ op.2.2.2[q]? = some row ∧ p ∈ row := by
  obtain ⟨w, h1, h2⟩ := h
  obtain ⟨i, hi⟩ := List.mem_iff_getElem?.mp h1
  have hil : i < ops.length := by rw [o.len]; exact (List.getElem?_eq_some_iff.mp hi).1
  have he : ops[i]? = some ops[i] := List.getElem?_eq_getElem hil
  obtain ⟨h3, h4⟩ := o.ok i _ he
  rw [hi] at h3
  have e := Option.some.inj h3
  have hql : q < (ops[i]).2.2.2.length := by rw [h4.len]; exact hq
  have hr := List.getElem?_eq_getElem hql
  refine ⟨i, ops[i], _, he, ?_, ?_, hr, (h4.ok q _ hr p).mpr ?_⟩
  · exact (congrArg (fun z : List Nat × List Nat × Nat => z.1) e).symm
  · exact (congrArg (fun z : List Nat × List Nat × Nat => z.2.2) e).symm
  · have e2 : w = (ops[i]).2.1 := congrArg (fun z : List Nat × List Nat × Nat => z.2.1) e
    rw [← e2]; exact h2
theorem OpsOk.row {b : Book} {m : Mach} {ops : List Op} (o : OpsOk b m ops) {i : Nat} {op : Op} (h : ops[i]? = some op) {q : Nat} (hq : q < m.1) : ∃ row, op.2.2.2[q]? = some row := by
  obtain ⟨_, h2⟩ := o.ok i op h
  exact ⟨_, List.getElem?_eq_getElem (by rw [h2.len]; exact hq)⟩
/-! lists of lists, all alike at first -/
def MatK (x0 : List V) (H1 : Hp) (D : Addr) (i : Nat) (H' : Hp) : Prop := H1 D = none ∧ Fe H1 H' ∧ ∃ qs : List Addr, qs.length = i ∧ H' D = some (.lst (qs.map V.ref)) ∧ qs.Nodup ∧ D ∉ qs ∧ ∀ q ∈ qs, H1 q = none ∧ H' q = some (.lst x0)
theorem MatK.start {x0 : List V} {H1 : Hp} {D : Addr} (h : H1 D = none) : MatK x0 H1 D 0 (upd H1 D (.lst [])) := ⟨h, Fe.new h, [], rfl, upd_same, List.nodup_nil, (by simp), (by simp)⟩
theorem MatK.turn {x0 : List V} {H1 H' H2 : Hp} {D : Addr} {i : Nat} (m : MatK x0 H1 D i H') (hi : i < 1000000) (f : Fe H' H2) {p : Addr} (hp : H2 p = none) :
    ∃ acc, (upd H2 p (.lst x0)) D = some (.lst acc) ∧ acc.length < sizeLine ∧ MatK x0 H1 D (i + 1) (upd (upd H2 p (.lst x0)) D (.lst (acc ++ [.ref p]))) := by
  obtain ⟨h1, e, qs, hl, hD, nd, ne, hq⟩ := m
  have hD2 := f.k hD
  have nDp : D ≠ p := ne_of_none hD2 hp
  have np : p ∉ qs := fun z => by
    have := f.k (hq p z).2
    rw [hp] at this; cases this
  refine ⟨qs.map V.ref, by rw [upd_ne nDp]; exact hD2, by rw [List.length_map, sizeLine_eq]; omega, h1, ((e.trans f).trans (Fe.new hp)).mut h1, qs ++ [p], by rw [List.length_append, List.length_singleton, hl], by rw [upd_same, List.map_append]; rfl, ?_, ?_, ?_⟩
  · rw [List.nodup_append]
    refine ⟨nd, by simp, fun a ha b hb => ?_⟩
    rw [List.mem_singleton.mp hb]
    exact fun z => np (z ▸ ha)
  · rw [List.mem_append, List.mem_singleton]
    exact fun z => z.elim ne nDp
  · intro q z
    rcases List.mem_append.mp z with z | z
    · have a : q ≠ D := fun e => ne (e ▸ z)
      have b : q ≠ p := fun e => np (e ▸ z)
      exact ⟨(hq q z).1, by rw [upd_ne a, upd_ne b]; exact f.k (hq q z).2⟩
    · rw [List.mem_singleton.mp z]
      exact ⟨(e.trans f).free hp, by rw [upd_ne nDp.symm, upd_same]⟩
theorem MatK.mat {α : Type} {r : Rp α} {x0 : List V} {row : List α} {H0 H1 H' : Hp} {D : Addr} {n : Nat} (m : MatK x0 H1 D n H') (e : Fe H0 H1) (ha : Al r H' x0 row) : ∃ qs, Mat r H0 H' D qs (List.replicate n row) := by
  obtain ⟨h1, f, qs, hl, hD, nd, ne, hq⟩ := m
  refine ⟨qs, hD, nd, ne, fun q z => e.free (hq q z).1, e.free h1, by rw [List.length_replicate, hl], fun i q row' a b => ?_⟩
  rw [List.getElem?_replicate] at b
  split at b
  · cases b; exact ⟨x0, (hq q (List.mem_of_getElem? a)).2, ha⟩
  · cases b
/-- an item of a row is written -/
theorem Mat.set {α : Type} {r : Rp α} [Mo r] {H0 H : Hp} {p : Addr} {qs : List Addr} {rows : List (List α)} (M : Mat r H0 H p qs rows) {i j : Nat} {q : Addr} {row : List α} {xs : List V} {v : V} {x : α}
    (hq : qs[i]? = some q) (hr : rows[i]? = some row) (hx : H q = some (.lst xs)) (ha : Al r H xs row) (h : r H v x) : Mat r H0 (upd H q (.lst (xs.set j v))) p qs (rows.set i (row.set j x)) := by
  have hm := List.mem_of_getElem? hq
  have f : Fx [q] H (upd H q (.lst (xs.set j v))) := Fx.put hx (List.mem_singleton.mpr rfl) (fun _ z => nomatch z)
  have np : p ≠ q := fun e => M.ne (e ▸ hm)
  refine ⟨by rw [upd_ne np]; exact M.at_, M.nd, M.ne, M.new, M.newp, by rw [List.length_set]; exact M.len, fun k q' row' h1 h2 => ?_⟩
  by_cases e : i = k
  · subst e
    rw [hq] at h1; cases h1
    rw [List.getElem?_set, if_pos rfl, if_pos (List.getElem?_eq_some_iff.mp hr).1] at h2
    cases h2
    exact ⟨_, upd_same, Al.set (Mo.mo (r := r) f h) _ (Al.mo f ha)⟩
  · rw [List.getElem?_set, if_neg e] at h2
    have ne : q' ≠ q := fun z => e (nd_ix M.nd hq (z ▸ h1))
    obtain ⟨ys, a, b⟩ := M.row k q' row' h1 h2
    exact ⟨ys, by rw [upd_ne ne]; exact a, Al.mo f b⟩
def spAhead : Sp := fun vs H Q _ => ∃ (b : Book) (m : Mach) (ops : List Op) (t : List Nat) (bg : Nat) (v1 : V), vs = [v1, vN m.1, .str ⟨t.toArray⟩, vN bg] ∧ rL rOp H v1 ops ∧ OpsOk b m ops ∧ (∀ op ∈ ops, op.1.length ≤ 1000) ∧ MOk m ∧ m.1 ≤ 60 ∧ bg ≤ t.length ∧ t.length ≤ 100000 ∧
  ∀ (p : Addr) (H' : Hp) (qs : List Addr) (rows : List CRow), Fe H H' → Mat (rO rN) H H' p qs rows → rows.length = t.length + 1 → (∀ (k : Nat) (row : CRow), rows[k]? = some row → LRow m.1 (Wh b m t bg k) row) → Q (.ref p) H'
theorem cut_mid (l : List Nat) (i k : Nat) (h : i ≤ l.length) : cutS ⟨l.toArray⟩ (some (i : Int)) (some ((i : Int) + (k : Int))) = ⟨((l.drop i).take k).toArray⟩ := by
  unfold cutS
  rw [slen, show ((i : Int) + (k : Int)) = ((i + k : Nat) : Int) by omega, HT.sIx_nat, HT.sIx_nat]
  show (⟨((l.drop (min i l.length)).take (min (i + k) l.length - min i l.length)).toArray⟩ : Str) = _
  rw [Nat.min_eq_left h]
  congr 2
  by_cases q : i + k ≤ l.length
  · rw [Nat.min_eq_left q, Nat.add_sub_cancel_left]
  · rw [Nat.min_eq_right (by omega), List.take_of_length_le (by rw [List.length_drop]; exact Nat.le_refl _), List.take_of_length_le (by rw [List.length_drop]; omega)]
/-- what the operations before the i-th bring from the place pl to the place k -/
def AS (b : Book) (m : Mach) (t : List Nat) (bg pl : Nat) (row : CRow) (ops : List Op) (i k q c : Nat) : Prop := Ar b m t bg pl k q c ∨ ∃ (i2 : Nat) (op : Op) (q' c' : Nat) (tr : List Nat), i2 < i ∧ ops[i2]? = some op ∧ op.1 ≠ [] ∧ (t.drop pl).take op.1.length = op.1 ∧ k = pl + op.1.length ∧
  row[q']? = some (some c') ∧ op.2.2.2[q']? = some tr ∧ q ∈ tr ∧ c = c' + op.2.2.1
theorem as_ar {b : Book} {m : Mach} (mok : MOk m) {t : List Nat} {bg pl : Nat} {row row' : CRow} {ops : List Op} (oo : OpsOk b m ops) (hc : LRow m.1 (Wh b m t bg pl) row) {n k : Nat} (L : LRow n (AS b m t bg pl row ops ops.length k) row') : LRow n (Ar b m t bg (pl + 1) k) row' := by
  refine L.imp ?_ ?_
  · rintro q c ((h | ⟨pl', q', c', r, d, h1, h2⟩) | ⟨i2, op, q', c', tr, h1, h2, h3, h4, h5, h6, h7, h8, h9⟩)
    · exact .inl h
    · exact .inr ⟨pl', q', c', r, d, by omega, h2⟩
    · exact .inr ⟨pl, q', c', op.1, op.2.2.1, by omega, hc.snd q' c' h6, h3, oo.to h2 h7 h8, h4, h5, h9⟩
  · rintro q c (h | ⟨pl', q', c', r, d, h1, h2, h3, h4, h5, h6, h7⟩)
    · exact ⟨c, .inl (.inl h), Nat.le_refl _⟩
    · by_cases hp : pl' = pl
      · subst hp
        obtain ⟨c2, g1, g2⟩ := hc.low q' c' h2
        obtain ⟨i2, op, tr, k1, k2, k3, k4, k5⟩ := oo.from_ (wh_lt mok h2) h4
        subst k2 k3
        exact ⟨c2 + op.2.2.1, .inr ⟨i2, op, q', c2, tr, (List.getElem?_eq_some_iff.mp k1).1, k1, h3, h5, h6, g1, k4, k5, rfl⟩, by omega⟩
      · exact ⟨c, .inl (.inr ⟨pl', q', c', r, d, by omega, h2, h3, h4, h5, h6, h7⟩), Nat.le_refl _⟩
def DnO (ops : List Op) (i : Nat) (row : CRow) : Prop := ∀ (i' : Nat) (op : Op), i' < i → ops[i']? = some op → op.1 = [] → ∀ (q : Nat) (tr : List Nat) (p : Nat), op.2.2.2[q]? = some tr → p ∈ tr → Rx row q p op.2.2.1
def DnQ (op : Op) (j : Nat) (row : CRow) : Prop := op.1 = [] → ∀ (q : Nat) (tr : List Nat) (p : Nat), q < j → op.2.2.2[q]? = some tr → p ∈ tr → Rx row q p op.2.2.1
structure SwI (n : Nat) (S : Nat → Nat → Nat → Prop) (A : Nat → Nat → Prop) (M D ph : Nat) (row : CRow) (ag : Bool) : Prop where
  rl : Rlx n S A M D row
  le : Phi (M + n * D) row ≤ ph
  lt : ag = true → Phi (M + n * D) row < ph
section
variable {P : Program} {w : World} {K : PySem.W.Frag} {g : Str → Option Value} {base : Heap}
theorem ok_law_ahead (T : Txt K g) : FnOk P w K g base CX0 1 T.d_law_ahead.f T.d_law_ahead.fd P_law_ahead spAhead := by
  refine T.d_law_ahead.F.ok sc_law_ahead (fun vs H Q E h => ?_) (fun cdv A outer s H vs Q E hr h => ?_)
  · obtain ⟨_, _, _, _, _, _, rfl, _⟩ := h
    rfl
  · obtain ⟨b, m, ops, t, bg, v1, rfl, hops, oo, hshort, mok, h60, hbg, ht5, kk⟩ := h
    have hu := hu_of hr
    refine ⟨_, (pss_cons (ps_setLc (i := 4) (own := [("place", 5)]) rfl sc_law_ahead.nd rfl rfl (sw_true rfl rfl rfl (by decide +kernel)) (pi_range1 rfl T.z_range (pa_cons (pe_op op_add (pe_callB kc_lenS (by rfl) T.z_len PySem.boot_len (pa_cons (pv 2) pa_nil)) pe_int) pa_nil)) (blkOk_by (N := N_law_ahead) (sc := defScope s_law_ahead) (by decide +kernel)) (fun _ _ _ _ _ => by exact (pg_name (i := 5) sc_law_ahead.nd rfl (by first | exact Or.inl rfl | exact Or.inr rfl))) (fun _ _ _ _ _ => by exact pts_nil) (fun _ _ _ _ _ => by exact (pe_op op_rep (pe_lst (pa_cons pe_non pa_nil)) (pv 1))))
    (pss_cons (ps_asg pe_int (pg_sub (pe_ix (kx_list (K := K) rfl) (pv 4) (pv 3) (fun _ _ => rfl)) pe_int set_list))
    (pss_cons (ps_for PassesOwn.never rfl (pi_range2 rfl T.z_range (pa_cons (pv 3) (pa_cons (pe_op op_add (pe_callB kc_lenS (by rfl) T.z_len PySem.boot_len (pa_cons (pv 2) pa_nil)) pe_int) pa_nil))) (pg_name (i := 5) sc_law_ahead.nd rfl (by first | exact Or.inl rfl | exact Or.inr rfl))
      (pss_cons (ps_set (i := 6) sc_law_ahead.nd rfl (by first | exact Or.inl rfl | exact Or.inr rfl) (pe_ix (kx_list (K := K) rfl) (pv 4) (pv 5) (fun _ _ => rfl)))
      (pss_cons (ps_set (i := 7) sc_law_ahead.nd rfl (by first | exact Or.inl rfl | exact Or.inr rfl) pe_bl)
      (pss_cons (ps_while PassesOwn.never (pt_val (pv 7))
        (pss_cons (ps_set (i := 7) sc_law_ahead.nd rfl (by first | exact Or.inl rfl | exact Or.inr rfl) pe_bl)
        (pss_one (ps_for PassesOwn.never rfl (ki_list (K := K) rfl (pv 0)) (kg_tup (K := K) 4 rfl rfl (pgs_cons (pg_name (i := 8) sc_law_ahead.nd rfl (by first | exact Or.inl rfl | exact Or.inr rfl)) (pgs_cons (pg_name (i := 9) sc_law_ahead.nd rfl (by first | exact Or.inl rfl | exact Or.inr rfl)) (pgs_cons (pg_name (i := 10) sc_law_ahead.nd rfl (by first | exact Or.inl rfl | exact Or.inr rfl)) (pgs_cons (pg_name (i := 11) sc_law_ahead.nd rfl (by first | exact Or.inl rfl | exact Or.inr rfl)) pgs_nil)))))
          (pss_one (ps_for PassesOwn.never rfl (pi_range1 rfl T.z_range (pa_cons (pv 1) pa_nil)) (pg_name (i := 12) sc_law_ahead.nd rfl (by first | exact Or.inl rfl | exact Or.inr rfl))
            (pss_one (ps_if (PW.pt (pw_and (pt_cmpR op_eq (pv 8) pe_str (nomark _)) (pw_and1 (pt_cmpR op_notN (pe_ix (kx_list (K := K) rfl) (pv 6) (pv 12) (fun _ _ => rfl)) pe_non (nomark _)))))
              (pss_one (ps_for PassesOwn.never rfl (ki_list (K := K) rfl (pe_ix (kx_list (K := K) rfl) (pv 11) (pv 12) (fun _ _ => rfl))) (pg_name (i := 13) sc_law_ahead.nd rfl (by first | exact Or.inl rfl | exact Or.inr rfl))
                (pss_one (ps_if (PW.pt (pw_or (pt_cmpR op_isN (pe_ix (kx_list (K := K) rfl) (pv 6) (pv 13) (fun _ _ => rfl)) pe_non (nomark _)) (pw_or1 (pt_cmpR op_gt (pe_ix (kx_list (K := K) rfl) (pv 6) (pv 13) (fun _ _ => rfl)) (pe_op op_add (pe_ix (kx_list (K := K) rfl) (pv 6) (pv 12) (fun _ _ => rfl)) (pv 10)) (nomark _)))))
                  (pss_cons (ps_asg (pe_op op_add (pe_ix (kx_list (K := K) rfl) (pv 6) (pv 12) (fun _ _ => rfl)) (pv 10)) (pg_sub (pv 6) (pv 13) set_list))
                  (pss_one (ps_set (i := 7) sc_law_ahead.nd rfl (by first | exact Or.inl rfl | exact Or.inr rfl) pe_bl)))
                  pss_nil))))
              pss_nil))))))))
      (pss_one (ps_for PassesOwn.never rfl (ki_list (K := K) rfl (pv 0)) (kg_tup (K := K) 4 rfl rfl (pgs_cons (pg_name (i := 8) sc_law_ahead.nd rfl (by first | exact Or.inl rfl | exact Or.inr rfl)) (pgs_cons (pg_name (i := 9) sc_law_ahead.nd rfl (by first | exact Or.inl rfl | exact Or.inr rfl)) (pgs_cons (pg_name (i := 10) sc_law_ahead.nd rfl (by first | exact Or.inl rfl | exact Or.inr rfl)) (pgs_cons (pg_name (i := 11) sc_law_ahead.nd rfl (by first | exact Or.inl rfl | exact Or.inr rfl)) pgs_nil)))))
        (pss_one (ps_if (PW.pt (pw_and (pt_cmpR op_ne (pv 8) pe_str (nomark _)) (pw_and1 (pt_cmpR op_eq (pe_slice sl_str (pv 2) (po_some (pv 5)) (po_some (pe_op op_add (pv 5) (pe_callB kc_lenS (by rfl) T.z_len PySem.boot_len (pa_cons (pv 8) pa_nil))))) (pv 8) (nomark _)))))
          (pss_cons (ps_set (i := 14) sc_law_ahead.nd rfl (by first | exact Or.inl rfl | exact Or.inr rfl) (pe_ix (kx_list (K := K) rfl) (pv 4) (pe_op op_add (pv 5) (pe_callB kc_lenS (by rfl) T.z_len PySem.boot_len (pa_cons (pv 8) pa_nil))) (fun _ _ => rfl)))
          (pss_one (ps_for PassesOwn.never rfl (pi_range1 rfl T.z_range (pa_cons (pv 1) pa_nil)) (pg_name (i := 12) sc_law_ahead.nd rfl (by first | exact Or.inl rfl | exact Or.inr rfl))
            (pss_one (ps_if (pt_cmpR op_notN (pe_ix (kx_list (K := K) rfl) (pv 6) (pv 12) (fun _ _ => rfl)) pe_non (nomark _))
              (pss_one (ps_for PassesOwn.never rfl (ki_list (K := K) rfl (pe_ix (kx_list (K := K) rfl) (pv 11) (pv 12) (fun _ _ => rfl))) (pg_name (i := 13) sc_law_ahead.nd rfl (by first | exact Or.inl rfl | exact Or.inr rfl))
                (pss_one (ps_if (PW.pt (pw_or (pt_cmpR op_isN (pe_ix (kx_list (K := K) rfl) (pv 14) (pv 13) (fun _ _ => rfl)) pe_non (nomark _)) (pw_or1 (pt_cmpR op_gt (pe_ix (kx_list (K := K) rfl) (pv 14) (pv 13) (fun _ _ => rfl)) (pe_op op_add (pe_ix (kx_list (K := K) rfl) (pv 6) (pv 12) (fun _ _ => rfl)) (pv 10)) (nomark _)))))
                  (pss_one (ps_asg (pe_op op_add (pe_ix (kx_list (K := K) rfl) (pv 6) (pv 12) (fun _ _ => rfl)) (pv 10)) (pg_sub (pv 14) (pv 13) set_list)))
                  pss_nil))))
              pss_nil)))))
          pss_nil))))))))
    (pss_one (ps_ret (pv 4)))))), ?_⟩
    obtain ⟨oa, oxs, rfl, hoa, hol⟩ := id hops
    refine ⟨_, rfl, _, rfl, by rw [slen, sizeLine_eq]; omega, _, _, rfl, rfl, _, rfl, by rw [slen]; omega, by rw [slen]; omega, fun D hD => ?_⟩
    have hcn : (((⟨t.toArray⟩ : Str).length : Int) + 1).toNat = t.length + 1 := by rw [slen]; omega
    rw [hcn]
    refine lc_range (MatK ((List.replicate m.1 none : CRow).map oV) H D) (MatK.start hD) ?_ ?_
    · intro i H' hi mc
      refine ⟨rfl, by show 1 ≤ sizeLine; decide, fun p1 hp1 => ?_⟩
      have g1 := Fe.new (o := .lst [V.non]) hp1
      refine ⟨_, rfl, p1, _, _, rfl, rfl, upd_same, by omega, by omega, by rw [sizeLine_eq]; simp only [List.length_singleton]; omega, fun p2 hp2 => ?_⟩
      rw [rep_oV, Int.toNat_natCast]
      exact mc.turn (by omega) g1 hp2
    · intro H1 mc
      obtain ⟨qs, M0⟩ := mc.mat (r := rO rN) (Fx.refl [] H) (Al.ofOpts _)
      have e1 := mc.2.1
      have hbr : (List.replicate (t.length + 1) (List.replicate m.1 none : CRow))[bg]? = some (List.replicate m.1 none) := by rw [List.getElem?_replicate, if_pos (by omega)]
      obtain ⟨q0, xs0, hq0, hq0m, hq0x, hq0a⟩ := M0.get hbr
      have hx0 := hq0a.opts
      subst hx0
      refine ⟨_, rfl, _, rfl, D, _, _, .ref q0, rfl, rfl, SqL.of M0.at_, atI_nat (by rw [List.getElem?_map, hq0]; rfl), q0, _, _, 0, rfl, rfl, hq0x, ?_, ?_⟩
      · have : ixN ((List.replicate m.1 none : CRow).map oV).length ((0 : Nat) : Int) = some 0 := ixn (by rw [List.length_map, List.length_replicate]; exact mok.pos)
        exact this
      have M1 := M0.set (j := 0) (v := .int 0) (x := some 0) hq0 hbr hq0x hq0a (by show V.int 0 = V.int _; rfl)
      have e2 := e1.mut (o := .lst (((List.replicate m.1 none : CRow).map oV).set 0 (.int 0))) (M0.new q0 hq0m)
      generalize upd H1 q0 (.lst (((List.replicate m.1 none : CRow).map oV).set 0 (.int 0))) = H2 at M1 e2
      have LR0 : ∀ (k : Nat) (row : CRow), ((List.replicate (t.length + 1) (List.replicate m.1 none : CRow)).set bg ((List.replicate m.1 none).set 0 (some 0)))[k]? = some row → LRow m.1 (Ar b m t bg bg k) row := by
        intro k row hrow
        rw [List.getElem?_set] at hrow
        by_cases hk : bg = k
        · subst hk
          rw [if_pos rfl, if_pos (by rw [List.length_replicate]; omega)] at hrow
          cases hrow
          refine ((LRow.nothing m.1).put (to := 0) (v := 0) (o := none) (by rw [List.getElem?_replicate, if_pos mok.pos]) bet_none).imp (fun q c z => ?_) (fun q c z => ⟨c, ?_, Nat.le_refl _⟩)
          · rcases z with z | ⟨rfl, rfl⟩
            · exact z.elim
            · exact .inl ⟨rfl, rfl, rfl⟩
          · rcases z with ⟨_, rfl, rfl⟩ | ⟨pl', _, _, _, _, h1, h2, _⟩
            · exact .inr ⟨rfl, rfl⟩
            · exact absurd (wh_ge h2) (by omega)
        · rw [if_neg hk, List.getElem?_replicate] at hrow
          split at hrow
          · cases hrow
            refine (LRow.nothing m.1).imp (fun _ _ z => z.elim) (fun q c z => ?_)
            rcases z with ⟨rfl, _, _⟩ | ⟨pl', _, _, _, _, h1, h2, _⟩
            · exact absurd rfl hk
            · exact absurd (wh_ge h2) (by omega)
          · cases hrow
      refine ⟨_, rfl, _, rfl, _, rfl, by rw [slen, sizeLine_eq]; omega, _, _, rfl, rfl, (bg : Int), ((t.length : Int) + 1), by rw [slen], ⟨by omega, by omega, by omega, by omega⟩, ?_⟩
      have hc2 : ((t.length : Int) + 1 - (bg : Int)).toNat = t.length + 1 - bg := by omega
      rw [hc2]
      refine for_range (lo := (bg : Int)) (n := t.length + 1 - bg) (fun i σ' H' => ∃ (rows : List CRow) (o5 o6 o7 o8 o9 o10 o11 o12 o13 o14 : Option V), σ' = [some (.ref oa), some (vN m.1), some (.str ⟨t.toArray⟩), some (vN bg), some (.ref D), o5, o6, o7, o8, o9, o10, o11, o12, o13, o14] ∧ Fe H H' ∧ Mat (rO rN) H H' D qs rows ∧ rows.length = t.length + 1 ∧
        ∀ (k : Nat) (row : CRow), rows[k]? = some row → LRow m.1 (if k < bg + i then Wh b m t bg k else Ar b m t bg (bg + i) k) row) ⟨_, _, _, _, _, _, _, _, _, _, _, rfl, e2, M1, by rw [List.length_set, List.length_replicate], fun k row hrow => ?_⟩ ?_ ?_
      · have := LR0 k row hrow
        split
        · rename_i hk
          refine this.imp (fun q c z => ?_) (fun q c z => absurd (wh_ge z) (by omega))
          rcases z with ⟨rfl, _, _⟩ | ⟨pl', _, _, _, _, h1, h2, _⟩
          · omega
          · exact absurd (wh_ge h2) (by omega)
        · exact this
      · rintro i σ' H' hi ⟨rows, o5, o6, o7, o8, o9, o10, o11, o12, o13, o14, rfl, e, Mt, hl, hrows⟩
        have epl : ((bg : Int) + (i : Int)) = ((bg + i : Nat) : Int) := by omega
        have hpl : bg + i < rows.length := by omega
        generalize hplq : bg + i = pl at epl hpl hrows
        obtain ⟨row, hrow⟩ : ∃ row, rows[pl]? = some row := ⟨_, List.getElem?_eq_getElem hpl⟩
        have hA := hrows pl row hrow
        rw [if_neg (Nat.lt_irrefl _)] at hA
        obtain ⟨qk, xs, hqk, hqm, hqx, hqa⟩ := Mt.get hrow
        have hxo := hqa.opts
        subst hxo
        have nqk : H qk = none := Mt.new qk hqm
        refine ⟨_, rfl, _, rfl, D, _, _, .ref qk, rfl, rfl, SqL.of Mt.at_, by rw [epl]; exact atI_nat (by rw [List.getElem?_map, hqk]; rfl), ?_⟩
        obtain ⟨Mx, hMx⟩ := row_max row
        obtain ⟨Dx, hDx⟩ := list_max ((alle b).map fun e => e.2.2)
        have hDS : ∀ q p d, SilS b m q p d → d ≤ Dx := fun q p d ⟨w, h1, _⟩ => hDx _ (List.mem_map.mpr ⟨_, h1, rfl⟩)
        -- while again
        refine ⟨fun k σ' H' => ∃ (row' : CRow) (ag : Bool) (o8 o9 o10 o11 o12 o13 : Option V), σ' = [some (.ref oa), some (vN m.1), some (.str ⟨t.toArray⟩), some (vN bg), some (.ref D), some (.int ((bg : Int) + (i : Int))), some (.ref qk), some (.bl ag), o8, o9, o10, o11, o12, o13, o14] ∧ Fe H H' ∧ Mat (rO rN) H H' D qs (rows.set pl row') ∧
          Rlx m.1 (SilS b m) (Ar b m t bg pl pl) Mx Dx row' ∧ (ag = false → DnO ops ops.length row') ∧ k = 2 * Phi (Mx + m.1 * Dx) row' + (if ag then 1 else 0), ⟨_, row, true, _, _, _, _, _, _, rfl, e, ?_, .start hA hMx, (fun z => nomatch z), rfl⟩, ?_⟩
        · have : rows.set pl row = rows := by
            apply List.ext_getElem?
            intro k
            rw [List.getElem?_set]
            by_cases z : pl = k
            · subst z; rw [if_pos rfl, if_pos hpl, hrow]
            · rw [if_neg z]
          rw [this]; exact Mt
        rintro kq σ' H2 ⟨row1, ag, o8, o9, o10, o11, o12, o13, rfl, e2, M2, R2, hdn, rfl⟩
        refine ⟨_, rfl, ag, rfl, ?_⟩
        cases ag with
        | true =>
          refine iteT ⟨_, fun σ' H' h => h, ?_⟩
          -- one sweep
          refine ⟨_, rfl, oa, rfl, ⟨_, SqL.of (e2.k hoa)⟩, for_lst (xs := oxs) (fun i' σ' H' => ∃ (row' : CRow) (ag : Bool) (o8 o9 o10 o11 o12 o13 : Option V), σ' = [some (.ref oa), some (vN m.1), some (.str ⟨t.toArray⟩), some (vN bg), some (.ref D), some (.int ((bg : Int) + (i : Int))), some (.ref qk), some (.bl ag), o8, o9, o10, o11, o12, o13, o14] ∧ Fe H H' ∧ Mat (rO rN) H H' D qs (rows.set pl row') ∧
            SwI m.1 (SilS b m) (Ar b m t bg pl pl) Mx Dx (Phi (Mx + m.1 * Dx) row1) row' ag ∧ (ag = false → DnO ops i' row')) ⟨row1, false, _, _, _, _, _, _, rfl, e2, M2, ⟨R2, Nat.le_refl _, fun z => nomatch z⟩, fun _ i' op h => absurd h (by omega)⟩ (fun i' σ' H' _ ⟨_, _, _, _, _, _, _, _, _, e, _⟩ => e.k hoa) ?_ ?_⟩
          · clear hdn R2 M2 e2
            rintro i' xv σ' H3 hx ⟨row3, ag, o8, o9, o10, o11, o12, o13, rfl, e3, M3, sw3, hd3⟩
            obtain ⟨op, hop, hxr0⟩ := hol.get hx
            obtain ⟨ua, x1, x2, x3, x4, rfl, hua, rfl, rfl, rfl, htab⟩ := id hxr0
            obtain ⟨ta, txs, rfl, hta, htal⟩ := id (show rL (rL rN) H x4 op.2.2.2 from htab)
            refine ⟨ua, _, rfl, SqT.of (e3.k hua), rfl, _, _, rfl, _, _, rfl, _, _, rfl, _, _, rfl, rfl, ?_⟩
            refine ⟨_, rfl, _, rfl, by omega, by omega, ?_⟩
            have hcm : (m.1 : Int).toNat = m.1 := by omega
            rw [hcm]
            refine for_range (lo := 0) (n := m.1) (fun j σ' H' => ∃ (row' : CRow) (ag : Bool) (o12 o13 : Option V), σ' = [some (.ref oa), some (vN m.1), some (.str ⟨t.toArray⟩), some (vN bg), some (.ref D), some (.int ((bg : Int) + (i : Int))), some (.ref qk), some (.bl ag), some (.str ⟨op.1.toArray⟩), some (.str ⟨op.2.1.toArray⟩), some (vN op.2.2.1), some (.ref ta), o12, o13, o14] ∧ Fe H H' ∧ Mat (rO rN) H H' D qs (rows.set pl row') ∧
              SwI m.1 (SilS b m) (Ar b m t bg pl pl) Mx Dx (Phi (Mx + m.1 * Dx) row1) row' ag ∧ (ag = false → DnO ops i' row' ∧ DnQ op j row')) ⟨row3, ag, _, _, rfl, e3, M3, sw3, fun z => ⟨hd3 z, fun _ q tr p h => absurd h (by omega)⟩⟩ ?_ ?_
            · clear hd3 sw3 M3 htab
              rintro j σ' H4 hj ⟨row4, ag, o12, o13, rfl, e4, M4, sw4, hd4⟩
              have hr4 : (rows.set pl row4)[pl]? = some row4 := by rw [List.getElem?_set, if_pos rfl, if_pos hpl]
              obtain ⟨q4, xs4, hq4, _, hx4, ha4⟩ := M4.get hr4
              have eq4 : q4 = qk := Option.some.inj (hq4.symm.trans hqk)
              subst eq4
              have hxo4 := ha4.opts
              subst hxo4
              have hl4 := sw4.rl.len
              obtain ⟨oc, hoc⟩ : ∃ oc, row4[j]? = some oc := ⟨_, List.getElem?_eq_getElem (by rw [hl4]; exact hj)⟩
              refine ⟨_, rfl, rfl, _, rfl, ?_⟩
              rw [dec_str_nil]
              by_cases hrd : op.1 = []
              · rw [decide_eq_true hrd]
                refine iteT ⟨_, rfl, _, rfl, q4, _, _, _, rfl, rfl, SqL.of hx4, by rw [Int.zero_add]; exact atI_nat (at_oV hoc), rfl, _, rfl, ?_⟩
                cases oc with
                | none =>
                  refine iteF ⟨row4, ag, _, _, rfl, e4, M4, sw4, fun z => ⟨(hd4 z).1, fun h0 q tr p hq htr hp => ?_⟩⟩
                  by_cases hqj : q = j
                  · subst hqj
                    intro c hc
                    rw [hoc] at hc; cases hc
                  · exact (hd4 z).2 h0 q tr p (by omega) htr hp
                | some c =>
                  refine iteT ?_
                  obtain ⟨trow, htrow⟩ := oo.row hop hj
                  obtain ⟨tv, htv, htr⟩ := htal.at htrow
                  obtain ⟨tra, trx, rfl, htra, htral⟩ := id htr
                  have htn := htral.nats
                  subst htn
                  have hmov : ∀ p, p ∈ trow → SilS b m j p op.2.2.1 := fun p hp => by
                    have := oo.to hop htrow hp
                    rw [hrd] at this
                    exact this
                  refine ⟨_, rfl, _, rfl, ta, _, _, .ref tra, rfl, rfl, SqL.of (e4.k hta), by rw [Int.zero_add]; exact atI_nat htv, tra, rfl, ⟨_, SqL.of (e4.k htra)⟩, for_lst (xs := trow.map vN) (fun k σ' H' => ∃ (row' : CRow) (ag : Bool) (o13 : Option V), σ' = [some (.ref oa), some (vN m.1), some (.str ⟨t.toArray⟩), some (vN bg), some (.ref D), some (.int ((bg : Int) + (i : Int))), some (.ref q4), some (.bl ag), some (.str ⟨op.1.toArray⟩), some (.str ⟨op.2.1.toArray⟩), some (vN op.2.2.1), some (.ref ta), some (.int (0 + (j : Int))), o13, o14] ∧ Fe H H' ∧ Mat (rO rN) H H' D qs (rows.set pl row') ∧
                    SwI m.1 (SilS b m) (Ar b m t bg pl pl) Mx Dx (Phi (Mx + m.1 * Dx) row1) row' ag ∧ row'[j]? = some (some c) ∧ (ag = false → DnO ops i' row' ∧ DnQ op j row' ∧ ∀ p, p ∈ trow.take k → Rx row' j p op.2.2.1)) ⟨row4, ag, _, rfl, e4, M4, sw4, hoc, fun z => ⟨(hd4 z).1, (hd4 z).2, fun p hp => nomatch hp⟩⟩ (fun k σ' H' _ ⟨_, _, _, _, e, _⟩ => e.k htra) ?_ ?_⟩
                  · clear hd4 sw4 M4 hx4 hr4 hl4 hoc ha4
                    rintro k yv σ' H5 hy ⟨row5, ag, o13, rfl, e5, M5, sw5, hoc, hd5⟩
                    rw [List.getElem?_map] at hy
                    obtain ⟨p, hp, rfl⟩ : ∃ p, trow[k]? = some p ∧ yv = vN p := by
                      cases z : trow[k]? with
                      | none => rw [z] at hy; cases hy
                      | some q => rw [z] at hy; exact ⟨q, rfl, (Option.some.inj hy).symm⟩
                    have hpm := hmov p (List.mem_of_getElem? hp)
                    have hpn : p < m.1 := ops_lt mok hj hpm
                    have hr5 : (rows.set pl row5)[pl]? = some row5 := by rw [List.getElem?_set, if_pos rfl, if_pos hpl]
                    obtain ⟨q5, xs5, hq5, hq5m, hx5, ha5⟩ := M5.get hr5
                    have eq5 : q5 = q4 := Option.some.inj (hq5.symm.trans hqk)
                    subst eq5
                    have hxo5 := ha5.opts
                    subst hxo5
                    have hl5 := sw5.rl.len
                    obtain ⟨oo1, hoo⟩ : ∃ oo1, row5[p]? = some oo1 := ⟨_, List.getElem?_eq_getElem (by rw [hl5]; exact hpn)⟩
                    have htk : trow.take (k + 1) = trow.take k ++ [p] := by rw [List.take_add_one, hp]; rfl
                    have hp2 : p < (row5.map oV).length := by rw [List.length_map, hl5]; exact hpn
                    have stay : ¬ Bet oo1 (c + op.2.2.1) → (ag = false → DnO ops i' row5 ∧ DnQ op j row5 ∧ ∀ p, p ∈ trow.take (k + 1) → Rx row5 j p op.2.2.1) := fun hb z => by
                      obtain ⟨z1, z2, z3⟩ := hd5 z
                      refine ⟨z1, z2, fun p' hp' => ?_⟩
                      rw [htk] at hp'
                      rcases List.mem_append.mp hp' with hp' | hp'
                      · exact z3 p' hp'
                      · rw [List.mem_singleton.mp hp']; exact Rx.well hoc hoo hb
                    have fin : Bet oo1 (c + op.2.2.1) → Fe H (upd H5 q5 (.lst ((row5.map oV).set p (vN (c + op.2.2.1))))) ∧ Mat (rO rN) H (upd H5 q5 (.lst ((row5.map oV).set p (vN (c + op.2.2.1))))) D qs (rows.set pl (row5.set p (some (c + op.2.2.1)))) ∧
                        SwI m.1 (SilS b m) (Ar b m t bg pl pl) Mx Dx (Phi (Mx + m.1 * Dx) row1) (row5.set p (some (c + op.2.2.1))) true ∧ (row5.set p (some (c + op.2.2.1)))[j]? = some (some c) := fun hb => by
                      obtain ⟨R6, ph6⟩ := sw5.rl.put hoc hpm (hDS _ _ _ hpm) hoo hb
                      have M6 := M5.set (j := p) (v := vN (c + op.2.2.1)) (x := some (c + op.2.2.1)) hq5 hr5 hx5 ha5 rfl
                      rw [List.set_set] at M6
                      have hle := sw5.le
                      have hne : j ≠ p := by
                        intro z
                        subst z
                        rw [hoc] at hoo
                        cases hoo
                        exact absurd (hb c rfl) (by omega)
                      exact ⟨e5.mut (M5.new q5 hq5m), M6, ⟨R6, by omega, fun _ => by omega⟩, by rw [List.getElem?_set, if_neg hne.symm]; exact hoc⟩
                    refine ⟨_, rfl, _, rfl, q5, _, _, _, rfl, rfl, SqL.of hx5, atI_nat (at_oV hoo), rfl, _, rfl, ?_⟩
                    cases oo1 with
                    | none =>
                      refine iteT (iteT ?_)
                      refine ⟨_, rfl, _, rfl, q5, _, _, _, rfl, rfl, SqL.of hx5, by rw [Int.zero_add]; exact atI_nat (at_oV hoc), _, rfl, _, _, rfl, rfl, _, rfl, _, rfl, q5, _, _, _, rfl, rfl, hx5, ixn hp2, ?_⟩
                      obtain ⟨f1, f2, f3, f4⟩ := fin bet_none
                      exact ⟨_, true, _, rfl, f1, f2, f3, f4, fun z => nomatch z⟩
                    | some e6 =>
                      refine iteF ⟨_, rfl, _, rfl, q5, _, _, _, rfl, rfl, SqL.of hx5, atI_nat (at_oV hoo), _, rfl, _, rfl, q5, _, _, _, rfl, rfl, SqL.of hx5, by rw [Int.zero_add]; exact atI_nat (at_oV hoc), _, rfl, _, _, rfl, rfl, _, _, rfl, rfl, _, rfl, ?_⟩
                      by_cases hlt : c + op.2.2.1 < e6
                      · rw [decide_eq_true (show ((c : Int) + (op.2.2.1 : Int) < (e6 : Int)) by omega)]
                        refine iteT ?_
                        refine ⟨_, rfl, _, rfl, q5, _, _, _, rfl, rfl, SqL.of hx5, by rw [Int.zero_add]; exact atI_nat (at_oV hoc), _, rfl, _, _, rfl, rfl, _, rfl, _, rfl, q5, _, _, _, rfl, rfl, hx5, ixn hp2, ?_⟩
                        obtain ⟨f1, f2, f3, f4⟩ := fin (bet_some.mpr hlt)
                        exact ⟨_, true, _, rfl, f1, f2, f3, f4, fun z => nomatch z⟩
                      · rw [decide_eq_false (show ¬ ((c : Int) + (op.2.2.1 : Int) < (e6 : Int)) by omega)]
                        exact iteF ⟨row5, ag, _, rfl, e5, M5, sw5, hoc, stay fun z => hlt (bet_some.mp z)⟩
                  · rintro σ' H5 ⟨row5, ag, o13, rfl, e5, M5, sw5, hoc, hd5⟩
                    rw [List.length_map, List.take_length] at hd5
                    refine ⟨row5, ag, _, _, rfl, e5, M5, sw5, fun z => ?_⟩
                    obtain ⟨z1, z2, z3⟩ := hd5 z
                    refine ⟨z1, fun h0 q tr p hq htr hp => ?_⟩
                    by_cases hqj : q = j
                    · subst hqj
                      rw [htrow] at htr; cases htr
                      exact z3 p hp
                    · exact z2 h0 q tr p (by omega) htr hp
              · rw [decide_eq_false hrd]
                exact iteF (iteF ⟨row4, ag, _, _, rfl, e4, M4, sw4, fun z => ⟨(hd4 z).1, fun h0 => absurd h0 hrd⟩⟩)
            · rintro σ' H4 ⟨row4, ag, o12, o13, rfl, e4, M4, sw4, hd4⟩
              refine ⟨row4, ag, _, _, _, _, _, _, rfl, e4, M4, sw4, fun z i2 op2 h1 h2 h3 q tr p h4 h5 => ?_⟩
              by_cases h6 : i2 = i'
              · subst h6
                rw [hop] at h2; cases h2
                have hql : q < m.1 := by
                  have h7 := (List.getElem?_eq_some_iff.mp h4).1
                  rw [(oo.ok _ _ hop).2.len] at h7
                  exact h7
                exact (hd4 z).2 h3 q tr p hql h4 h5
              · exact (hd4 z).1 i2 op2 (by omega) h2 h3 q tr p h4 h5
          · rintro σ' H3 ⟨row3, ag, o8, o9, o10, o11, o12, o13, rfl, e3, M3, sw3, hd3⟩
            have hle := sw3.le
            have hlt := sw3.lt
            rw [hol.len] at hd3
            refine ⟨2 * Phi (Mx + m.1 * Dx) row3 + (if ag then 1 else 0), ?_, row3, ag, _, _, _, _, _, _, rfl, e3, M3, sw3.rl, hd3, rfl⟩
            cases ag with
            | true => have := hlt rfl; simp only [if_true]; omega
            | false => simp only [if_true, Bool.false_eq_true, if_false]; omega
        | false =>
          refine iteF ?_
          have hcl : LRow m.1 (Wh b m t bg pl) row1 := by
            have := R2.done fun q p d h => ?_
            · exact this.imp (fun q c z => wh_cl.mpr z) (fun q c z => ⟨c, wh_cl.mp z, Nat.le_refl _⟩)
            · intro c hc
              have hq : q < m.1 := by rw [← R2.len]; exact (List.getElem?_eq_some_iff.mp hc).1
              obtain ⟨i', op, tr, h1, h2, h3, h4, h5⟩ := oo.from_ hq h
              have := hdn rfl i' op (List.getElem?_eq_some_iff.mp h1).1 h1 h2 q tr p h4 h5
              rw [h3] at this
              exact this c hc
          have hlen2 : (rows.set pl row1).length = t.length + 1 := by rw [List.length_set]; exact hl
          have hrow1 : (rows.set pl row1)[pl]? = some row1 := by rw [List.getElem?_set, if_pos rfl, if_pos hpl]
          have hoth : ∀ (k : Nat) (rw_ : CRow), k ≠ pl → (rows.set pl row1)[k]? = some rw_ → rows[k]? = some rw_ := fun k rw_ hk h => by
            rw [List.getElem?_set, if_neg hk.symm] at h
            exact h
          have ht1 : t.length + 1 = rows.length := hl.symm
          have hplt : pl ≤ t.length := by omega
          refine ⟨_, rfl, oa, rfl, ⟨_, SqL.of (e2.k hoa)⟩, for_lst (xs := oxs) (fun i' σ' H' => ∃ (rows' : List CRow) (o8 o9 o10 o11 o12 o13 o14 : Option V), σ' = [some (.ref oa), some (vN m.1), some (.str ⟨t.toArray⟩), some (vN bg), some (.ref D), some (.int ((bg : Int) + (i : Int))), some (.ref qk), some (.bl false), o8, o9, o10, o11, o12, o13, o14] ∧ Fe H H' ∧ Mat (rO rN) H H' D qs rows' ∧ rows'.length = t.length + 1 ∧
            rows'[pl]? = some row1 ∧ (∀ (k : Nat) (rw_ : CRow), rows'[k]? = some rw_ → (k < pl → LRow m.1 (Wh b m t bg k) rw_) ∧ (pl < k → LRow m.1 (AS b m t bg pl row1 ops i' k) rw_)))
            ⟨rows.set pl row1, _, _, _, _, _, _, _, rfl, e2, M2, hlen2, hrow1, fun k rw_ hk => ⟨fun h => ?_, fun h => ?_⟩⟩ (fun i' σ' H' _ ⟨_, _, _, _, _, _, _, _, _, e, _⟩ => e.k hoa) ?_ ?_⟩
          · have := hrows k rw_ (hoth k rw_ (by omega) hk)
            rw [if_pos h] at this
            exact this
          · have := hrows k rw_ (hoth k rw_ (by omega) hk)
            rw [if_neg (by omega)] at this
            exact this.imp (fun _ _ => .inl) (fun q c z => by
              rcases z with z | ⟨i2, _, _, _, _, z, _⟩
              · exact ⟨c, z, Nat.le_refl _⟩
              · exact absurd z (by omega))
          · clear hoth hrow1 hlen2 hdn M2 R2 e2
            rintro i' xv σ' H3 hx ⟨rows3, o8, o9, o10, o11, o12, o13, o14, rfl, e3, M3, hl3, hpl3, hr3⟩
            obtain ⟨op, hop, hxr0⟩ := hol.get hx
            obtain ⟨ua, x1, x2, x3, x4, rfl, hua, rfl, rfl, rfl, htab⟩ := id hxr0
            obtain ⟨ta, txs, rfl, hta, htal⟩ := id (show rL (rL rN) H x4 op.2.2.2 from htab)
            have hop3 := hshort op (List.mem_of_getElem? hop)
            have skip : (op.1 = [] ∨ (t.drop pl).take op.1.length ≠ op.1) → ∀ (k : Nat) (rw_ : CRow), rows3[k]? = some rw_ → (k < pl → LRow m.1 (Wh b m t bg k) rw_) ∧ (pl < k → LRow m.1 (AS b m t bg pl row1 ops (i' + 1) k) rw_) := fun hs k rw_ hk => by
              obtain ⟨h1, h2⟩ := hr3 k rw_ hk
              refine ⟨h1, fun h => (h2 h).imp ?_ ?_⟩
              · rintro q c (z | ⟨i2, op2, q', c', tr, z1, z2⟩)
                · exact .inl z
                · exact .inr ⟨i2, op2, q', c', tr, by omega, z2⟩
              · rintro q c (z | ⟨i2, op2, q', c', tr, z1, z2, z3, z4, z5⟩)
                · exact ⟨c, .inl z, Nat.le_refl _⟩
                · by_cases hi2 : i2 = i'
                  · subst hi2
                    rw [hop] at z2; cases z2
                    exact (hs.elim (fun z => absurd z z3) fun z => absurd z4 z)
                  · exact ⟨c, .inr ⟨i2, op2, q', c', tr, by omega, z2, z3, z4, z5⟩, Nat.le_refl _⟩
            refine ⟨ua, _, rfl, SqT.of (e3.k hua), rfl, _, _, rfl, _, _, rfl, _, _, rfl, _, _, rfl, rfl, ?_⟩
            refine ⟨_, rfl, rfl, _, rfl, ?_⟩
            rw [dec_str_nil]
            by_cases hrd : op.1 = []
            · rw [decide_eq_true hrd]
              exact iteF (iteF ⟨rows3, _, _, _, _, _, _, _, rfl, e3, M3, hl3, hpl3, skip (.inl hrd)⟩)
            · rw [decide_eq_false hrd]
              have hsz : ((⟨op.1.toArray⟩ : Str).length : Nat) = op.1.length := slen _
              refine iteT ⟨_, rfl, _, rfl, _, rfl, _, rfl, _, rfl, _, rfl, ?_, _, _, rfl, rfl, _, rfl, _, rfl, by rw [slen, sizeLine_eq]; omega, _, rfl, rfl, _, rfl, ?_⟩
              · rw [slen, sizeLine_eq]; show op.1.length ≤ _; omega
              · have ecut : cutS ⟨t.toArray⟩ (some ((bg : Int) + (i : Int))) (some ((bg : Int) + (i : Int) + (((⟨op.1.toArray⟩ : Str).length : Nat) : Int))) = ⟨((t.drop pl).take op.1.length).toArray⟩ := by rw [epl, hsz, cut_mid t pl op.1.length hplt]
                rw [ecut]
                by_cases hmt : (t.drop pl).take op.1.length = op.1
                · rw [decide_eq_true (by rw [hmt])]
                  have hk2 : pl + op.1.length ≤ t.length := by
                    have := congrArg List.length hmt
                    rw [List.length_take, List.length_drop] at this
                    omega
                  have hrp : 0 < op.1.length := List.length_pos_iff.mpr hrd
                  generalize hk2e : pl + op.1.length = k2 at hk2
                  obtain ⟨row2, hrow2⟩ : ∃ row2, rows3[k2]? = some row2 := ⟨_, List.getElem?_eq_getElem (by omega)⟩
                  have hL2 := (hr3 k2 row2 hrow2).2 (by omega)
                  obtain ⟨q2, xs2, hq2, hq2m, hx2, ha2⟩ := M3.get hrow2
                  have hxo2 := ha2.opts
                  subst hxo2
                  refine iteT ?_
                  refine ⟨_, rfl, _, rfl, _, rfl, _, rfl, by rw [slen, sizeLine_eq]; show op.1.length ≤ _; omega, _, _, rfl, rfl, D, _, _, .ref q2, rfl, rfl, SqL.of M3.at_, ?_, ?_⟩
                  · rw [hsz, epl, show ((pl : Int) + (op.1.length : Int)) = ((k2 : Nat) : Int) by omega]
                    exact atI_nat (by rw [List.getElem?_map, hq2]; rfl)
                  refine ⟨_, rfl, _, rfl, by omega, by omega, ?_⟩
                  have hcm : (m.1 : Int).toNat = m.1 := by omega
                  rw [hcm]
                  refine for_range (lo := 0) (n := m.1) (fun j σ' H' => ∃ (trw : CRow) (o12 o13 : Option V), σ' = [some (.ref oa), some (vN m.1), some (.str ⟨t.toArray⟩), some (vN bg), some (.ref D), some (.int ((bg : Int) + (i : Int))), some (.ref qk), some (.bl false), some (.str ⟨op.1.toArray⟩), some (.str ⟨op.2.1.toArray⟩), some (vN op.2.2.1), some (.ref ta), o12, o13, some (.ref q2)] ∧ Fe H H' ∧ Mat (rO rN) H H' D qs (rows3.set k2 trw) ∧
                    LRow m.1 (fun q c => AS b m t bg pl row1 ops i' k2 q c ∨ ∃ (q' c' : Nat) (tr : List Nat), q' < j ∧ row1[q']? = some (some c') ∧ op.2.2.2[q']? = some tr ∧ q ∈ tr ∧ c = c' + op.2.2.1) trw) ⟨row2, _, _, rfl, e3, ?_, hL2.imp (fun _ _ => .inl) (fun q c z => ?_)⟩ ?_ ?_
                  · have : rows3.set k2 row2 = rows3 := by
                      apply List.ext_getElem?
                      intro k
                      rw [List.getElem?_set]
                      by_cases z : k2 = k
                      · subst z; rw [if_pos rfl, if_pos (by omega), hrow2]
                      · rw [if_neg z]
                    rw [this]; exact M3
                  · rcases z with z | ⟨_, _, _, z, _⟩
                    · exact ⟨c, z, Nat.le_refl _⟩
                    · exact absurd z (by omega)
                  · rintro j σ' H4 hj ⟨trw, o12, o13, rfl, e4, M4, hLt⟩
                    have hp4 : (rows3.set k2 trw)[pl]? = some row1 := by rw [List.getElem?_set, if_neg (by omega)]; exact hpl3
                    obtain ⟨q4, xs4, hq4, _, hx4, ha4⟩ := M4.get hp4
                    have eq4 : q4 = qk := Option.some.inj (hq4.symm.trans hqk)
                    subst eq4
                    have hxo4 := ha4.opts
                    subst hxo4
                    have hl4 := hcl.len
                    obtain ⟨oc, hoc⟩ : ∃ oc, row1[j]? = some oc := ⟨_, List.getElem?_eq_getElem (by rw [hl4]; exact hj)⟩
                    refine ⟨_, rfl, _, rfl, q4, _, _, _, rfl, rfl, SqL.of hx4, by rw [Int.zero_add]; exact atI_nat (at_oV hoc), rfl, _, rfl, ?_⟩
                    cases oc with
                    | none =>
                      refine iteF ⟨trw, _, _, rfl, e4, M4, hLt.imp ?_ ?_⟩
                      · rintro q c (z | ⟨q', c', tr, z1, z2⟩)
                        · exact .inl z
                        · exact .inr ⟨q', c', tr, by omega, z2⟩
                      · rintro q c (z | ⟨q', c', tr, z1, z2, z3⟩)
                        · exact ⟨c, .inl z, Nat.le_refl _⟩
                        · have : q' ≠ j := fun e => by rw [e, hoc] at z2; cases z2
                          exact ⟨c, .inr ⟨q', c', tr, by omega, z2, z3⟩, Nat.le_refl _⟩
                    | some c0 =>
                      refine iteT ?_
                      obtain ⟨trow, htrow⟩ := oo.row hop hj
                      obtain ⟨tv, htv, htr⟩ := htal.at htrow
                      obtain ⟨tra, trx, rfl, htra, htral⟩ := id htr
                      have htn := htral.nats
                      subst htn
                      have hmov : ∀ p, p ∈ trow → p < m.1 := fun p hp => ops_lt mok hj (oo.to hop htrow hp)
                      refine ⟨_, rfl, _, rfl, ta, _, _, .ref tra, rfl, rfl, SqL.of (e4.k hta), by rw [Int.zero_add]; exact atI_nat htv, tra, rfl, ⟨_, SqL.of (e4.k htra)⟩, for_lst (xs := trow.map vN) (fun k σ' H' => ∃ (trw : CRow) (o13 : Option V), σ' = [some (.ref oa), some (vN m.1), some (.str ⟨t.toArray⟩), some (vN bg), some (.ref D), some (.int ((bg : Int) + (i : Int))), some (.ref q4), some (.bl false), some (.str ⟨op.1.toArray⟩), some (.str ⟨op.2.1.toArray⟩), some (vN op.2.2.1), some (.ref ta), some (.int (0 + (j : Int))), o13, some (.ref q2)] ∧ Fe H H' ∧ Mat (rO rN) H H' D qs (rows3.set k2 trw) ∧
                        LRow m.1 (fun q c => (AS b m t bg pl row1 ops i' k2 q c ∨ ∃ (q' c' : Nat) (tr : List Nat), q' < j ∧ row1[q']? = some (some c') ∧ op.2.2.2[q']? = some tr ∧ q ∈ tr ∧ c = c' + op.2.2.1) ∨ (q ∈ trow.take k ∧ c = c0 + op.2.2.1)) trw) ⟨trw, _, rfl, e4, M4, hLt.imp (fun _ _ => .inl) (fun q c z => ?_)⟩ (fun k σ' H' _ ⟨_, _, _, e, _⟩ => e.k htra) ?_ ?_⟩
                      · rcases z with z | ⟨z, _⟩
                        · exact ⟨c, z, Nat.le_refl _⟩
                        · exact nomatch z
                      · clear hLt M4 hx4 hp4 ha4
                        rintro k yv σ' H5 hy ⟨trw5, o13, rfl, e5, M5, hL5⟩
                        rw [List.getElem?_map] at hy
                        obtain ⟨p, hp, rfl⟩ : ∃ p, trow[k]? = some p ∧ yv = vN p := by
                          cases z : trow[k]? with
                          | none => rw [z] at hy; cases hy
                          | some q => rw [z] at hy; exact ⟨q, rfl, (Option.some.inj hy).symm⟩
                        have hpn : p < m.1 := hmov p (List.mem_of_getElem? hp)
                        have hr5 : (rows3.set k2 trw5)[k2]? = some trw5 := by rw [List.getElem?_set, if_pos rfl, if_pos (by omega)]
                        obtain ⟨q5, xs5, hq5, hq5m, hx5, ha5⟩ := M5.get hr5
                        have eq5 : q5 = q2 := Option.some.inj (hq5.symm.trans hq2)
                        subst eq5
                        have hxo5 := ha5.opts
                        subst hxo5
                        have hp5 : (rows3.set k2 trw5)[pl]? = some row1 := by rw [List.getElem?_set, if_neg (by omega)]; exact hpl3
                        obtain ⟨q6, xs6, hq6, _, hx6, ha6⟩ := M5.get hp5
                        have eq6 : q6 = q4 := Option.some.inj (hq6.symm.trans hqk)
                        subst eq6
                        have hxo6 := ha6.opts
                        subst hxo6
                        have hl5 := hL5.len
                        obtain ⟨oo1, hoo⟩ : ∃ oo1, trw5[p]? = some oo1 := ⟨_, List.getElem?_eq_getElem (by rw [hl5]; exact hpn)⟩
                        have htk : trow.take (k + 1) = trow.take k ++ [p] := by rw [List.take_add_one, hp]; rfl
                        have hp2 : p < (trw5.map oV).length := by rw [List.length_map, hl5]; exact hpn
                        have cong : ∀ told' : CRow, LRow m.1 (fun h c => ((AS b m t bg pl row1 ops i' k2 h c ∨ ∃ (q' c' : Nat) (tr : List Nat), q' < j ∧ row1[q']? = some (some c') ∧ op.2.2.2[q']? = some tr ∧ h ∈ tr ∧ c = c' + op.2.2.1) ∨ (h ∈ trow.take k ∧ c = c0 + op.2.2.1)) ∨ (h = p ∧ c = c0 + op.2.2.1)) told' →
                            LRow m.1 (fun q c => (AS b m t bg pl row1 ops i' k2 q c ∨ ∃ (q' c' : Nat) (tr : List Nat), q' < j ∧ row1[q']? = some (some c') ∧ op.2.2.2[q']? = some tr ∧ q ∈ tr ∧ c = c' + op.2.2.1) ∨ (q ∈ trow.take (k + 1) ∧ c = c0 + op.2.2.1)) told' := fun told' R' => by
                          rw [htk]
                          refine R'.imp ?_ ?_
                          · rintro h c ((z | ⟨z1, z2⟩) | ⟨rfl, z2⟩)
                            · exact .inl z
                            · exact .inr ⟨List.mem_append_left _ z1, z2⟩
                            · exact .inr ⟨List.mem_append_right _ (List.mem_singleton.mpr rfl), z2⟩
                          · rintro h c (z | ⟨z1, z2⟩)
                            · exact ⟨c, .inl (.inl z), Nat.le_refl _⟩
                            · rcases List.mem_append.mp z1 with z1 | z1
                              · exact ⟨c, .inl (.inr ⟨z1, z2⟩), Nat.le_refl _⟩
                              · exact ⟨c, .inr ⟨List.mem_singleton.mp z1, z2⟩, Nat.le_refl _⟩
                        have fin : Bet oo1 (c0 + op.2.2.1) → Fe H (upd H5 q5 (.lst ((trw5.map oV).set p (vN (c0 + op.2.2.1))))) ∧ Mat (rO rN) H (upd H5 q5 (.lst ((trw5.map oV).set p (vN (c0 + op.2.2.1))))) D qs (rows3.set k2 (trw5.set p (some (c0 + op.2.2.1)))) ∧ _ := fun hb => by
                          have M6 := M5.set (j := p) (v := vN (c0 + op.2.2.1)) (x := some (c0 + op.2.2.1)) hq5 hr5 hx5 ha5 rfl
                          rw [List.set_set] at M6
                          exact ⟨e5.mut (M5.new q5 hq5m), M6, cong _ (hL5.put hoo hb)⟩
                        refine ⟨_, rfl, _, rfl, q5, _, _, _, rfl, rfl, SqL.of hx5, atI_nat (at_oV hoo), rfl, _, rfl, ?_⟩
                        cases oo1 with
                        | none =>
                          refine iteT (iteT ?_)
                          refine ⟨_, rfl, _, rfl, q6, _, _, _, rfl, rfl, SqL.of hx6, by rw [Int.zero_add]; exact atI_nat (at_oV hoc), _, rfl, _, _, rfl, rfl, _, rfl, _, rfl, q5, _, _, _, rfl, rfl, hx5, ixn hp2, ?_⟩
                          obtain ⟨f1, f2, f3⟩ := fin bet_none
                          exact ⟨_, _, rfl, f1, f2, f3⟩
                        | some e6 =>
                          refine iteF ⟨_, rfl, _, rfl, q5, _, _, _, rfl, rfl, SqL.of hx5, atI_nat (at_oV hoo), _, rfl, _, rfl, q6, _, _, _, rfl, rfl, SqL.of hx6, by rw [Int.zero_add]; exact atI_nat (at_oV hoc), _, rfl, _, _, rfl, rfl, _, _, rfl, rfl, _, rfl, ?_⟩
                          by_cases hlt : c0 + op.2.2.1 < e6
                          · rw [decide_eq_true (show ((c0 : Int) + (op.2.2.1 : Int) < (e6 : Int)) by omega)]
                            refine iteT ?_
                            refine ⟨_, rfl, _, rfl, q6, _, _, _, rfl, rfl, SqL.of hx6, by rw [Int.zero_add]; exact atI_nat (at_oV hoc), _, rfl, _, _, rfl, rfl, _, rfl, _, rfl, q5, _, _, _, rfl, rfl, hx5, ixn hp2, ?_⟩
                            obtain ⟨f1, f2, f3⟩ := fin (bet_some.mpr hlt)
                            exact ⟨_, _, rfl, f1, f2, f3⟩
                          · rw [decide_eq_false (show ¬ ((c0 : Int) + (op.2.2.1 : Int) < (e6 : Int)) by omega)]
                            exact iteF ⟨trw5, _, rfl, e5, M5, cong _ (hL5.keep hoo fun z => hlt (bet_some.mp z))⟩
                      · rintro σ' H5 ⟨trw5, o13, rfl, e5, M5, hL5⟩
                        rw [List.length_map, List.take_length] at hL5
                        refine ⟨trw5, _, _, rfl, e5, M5, hL5.imp ?_ ?_⟩
                        · rintro q c ((z | ⟨q', c', tr, z1, z2⟩) | ⟨z1, z2⟩)
                          · exact .inl z
                          · exact .inr ⟨q', c', tr, by omega, z2⟩
                          · exact .inr ⟨j, c0, trow, by omega, hoc, htrow, z1, z2⟩
                        · rintro q c (z | ⟨q', c', tr, z1, z2, z3, z4, z5⟩)
                          · exact ⟨c, .inl (.inl z), Nat.le_refl _⟩
                          · by_cases hqj : q' = j
                            · subst hqj
                              rw [hoc] at z2; cases z2
                              rw [htrow] at z3; cases z3
                              exact ⟨c, .inr ⟨z4, z5⟩, Nat.le_refl _⟩
                            · exact ⟨c, .inl (.inr ⟨q', c', tr, by omega, z2, z3, z4, z5⟩), Nat.le_refl _⟩
                  · rintro σ' H4 ⟨trw, o12, o13, rfl, e4, M4, hLt⟩
                    refine ⟨rows3.set k2 trw, _, _, _, _, _, _, _, rfl, e4, M4, by rw [List.length_set]; exact hl3, by rw [List.getElem?_set, if_neg (by omega)]; exact hpl3, fun k rw_ hk => ?_⟩
                    rw [List.getElem?_set] at hk
                    by_cases hkk : k2 = k
                    · subst hkk
                      rw [if_pos rfl, if_pos (by omega)] at hk
                      cases hk
                      refine ⟨fun h => absurd h (by omega), fun _ => hLt.imp ?_ ?_⟩
                      · rintro q c ((z | ⟨i2, op2, q', c', tr, z1, z2⟩) | ⟨q', c', tr, z1, z2, z3, z4, z5⟩)
                        · exact .inl z
                        · exact .inr ⟨i2, op2, q', c', tr, by omega, z2⟩
                        · exact .inr ⟨i', op, q', c', tr, by omega, hop, hrd, hmt, hk2e.symm, z2, z3, z4, z5⟩
                      · rintro q c (z | ⟨i2, op2, q', c', tr, z1, z2, z3, z4, z5, z6, z7, z8, z9⟩)
                        · exact ⟨c, .inl (.inl z), Nat.le_refl _⟩
                        · by_cases hi2 : i2 = i'
                          · subst hi2
                            rw [hop] at z2; cases z2
                            have hql : q' < m.1 := by
                              have h7 := (List.getElem?_eq_some_iff.mp z7).1
                              rw [(oo.ok _ _ hop).2.len] at h7
                              exact h7
                            exact ⟨c, .inr ⟨q', c', tr, hql, z6, z7, z8, z9⟩, Nat.le_refl _⟩
                          · exact ⟨c, .inl (.inr ⟨i2, op2, q', c', tr, by omega, z2, z3, z4, z5, z6, z7, z8, z9⟩), Nat.le_refl _⟩
                    · rw [if_neg hkk] at hk
                      obtain ⟨h1, h2⟩ := hr3 k rw_ hk
                      refine ⟨h1, fun h => (h2 h).imp ?_ ?_⟩
                      · rintro q c (z | ⟨i2, op2, q', c', tr, z1, z2⟩)
                        · exact .inl z
                        · exact .inr ⟨i2, op2, q', c', tr, by omega, z2⟩
                      · rintro q c (z | ⟨i2, op2, q', c', tr, z1, z2, z3, z4, z5⟩)
                        · exact ⟨c, .inl z, Nat.le_refl _⟩
                        · by_cases hi2 : i2 = i'
                          · subst hi2
                            rw [hop] at z2; cases z2
                            exact absurd (z5.1.trans hk2e) (fun e => hkk e.symm)
                          · exact ⟨c, .inr ⟨i2, op2, q', c', tr, by omega, z2, z3, z4, z5⟩, Nat.le_refl _⟩
                · rw [decide_eq_false (fun z => hmt (str_inj (V.str.inj z)))]
                  exact iteF ⟨rows3, _, _, _, _, _, _, _, rfl, e3, M3, hl3, hpl3, skip (.inr hmt)⟩
          · rintro σ' H3 ⟨rows3, o8, o9, o10, o11, o12, o13, o14, rfl, e3, M3, hl3, hpl3, hr3⟩
            rw [hol.len] at hr3
            refine ⟨rows3, _, _, _, _, _, _, _, _, _, _, rfl, e3, M3, hl3, fun k rw_ hk => ?_⟩
            obtain ⟨h1, h2⟩ := hr3 k rw_ hk
            rw [show bg + (i + 1) = pl + 1 by omega]
            by_cases hkp : k < pl
            · rw [if_pos (by omega)]; exact h1 hkp
            · by_cases hke : k = pl
              · subst hke
                rw [if_pos (by omega)]
                rw [hpl3] at hk; cases hk
                exact hcl
              · rw [if_neg (by omega)]
                exact as_ar mok oo hcl (h2 (by omega))
      · rintro σ' H' ⟨rows, o5, o6, o7, o8, o9, o10, o11, o12, o13, o14, rfl, e, Mt, hl, hrows⟩
        refine ⟨_, rfl, kk D H' qs rows e Mt hl fun k row hrow => ?_⟩
        have := hrows k row hrow
        rw [if_pos (by have := (List.getElem?_eq_some_iff.mp hrow).1; omega)] at this
        exact this
end
end Fm
namespace Fm
open PySem L2
abbrev HRow := Nat × List Nat × List (Nat × Nat × Nat)
/-- a row of the houses; its lists are not R -/
def rRow (R : Addr) (N : List Addr) : Rp HRow := fun H v x => ∃ (t E S : Addr) (vs : List V), v = .ref t ∧ H t = some (.tup [.int (x.1 : Int), .ref E, .ref S]) ∧ H E = some (.lst (x.2.1.map vN)) ∧ H S = some (.lst vs) ∧ Al rStep H vs x.2.2 ∧ E ≠ R ∧ S ≠ R ∧ E ∉ N ∧ S ∉ N
theorem rRow.f {R : Addr} {N : List Addr} {H H' : Hp} {v : V} {x : HRow} (h : rRow R N H v x) (f : Fx [R] H H') : rRow R N H' v x := by
  obtain ⟨t, E, S, vs, rfl, h1, h2, h3, h4, h5, h6, h7⟩ := h
  exact ⟨t, E, S, vs, rfl, f.tups _ _ h1, f.keep _ _ (fun z => h5 (List.mem_singleton.mp z)) h2, f.keep _ _ (fun z => h6 (List.mem_singleton.mp z)) h3, Al.mo f h4, h5, h6, h7⟩
theorem rRow.al {R : Addr} {N : List Addr} {H H' : Hp} {vs : List V} {xs : List HRow} (h : Al (rRow R N) H vs xs) (f : Fx [R] H H') : Al (rRow R N) H' vs xs := L2.Paired.mapP h fun _ _ q => rRow.f q f
/-- a row while it is made -/
structure RB (H0 H : Hp) (E : Addr) (es : List Nat) (vs : List V) (sts : List (Nat × Nat × Nat)) : Prop where
  fe : Fe H0 H
  nE : H0 E = none
  hE : H E = some (.lst (es.map vN))
  al : Al rStep H vs sts
theorem RB.start {H : Hp} {E : Addr} (es : List Nat) (h : H E = none) : RB H (upd H E (.lst (es.map vN))) E es [] [] := ⟨Fe.new h, h, upd_same, .nil⟩
theorem RB.tup {H0 H : Hp} {E : Addr} {es : List Nat} {vs : List V} {sts : List (Nat × Nat × Nat)} (b : RB H0 H E es vs sts) {t : Addr} (h : H t = none) (x c y : Nat) : RB H0 (upd H t (.tup [.int (x : Int), s1 c, .int (y : Int)])) E es (vs ++ [.ref t]) (sts ++ [(x, c, y)]) := by
  have f := Fe.new (o := .tup [.int (x : Int), s1 c, .int (y : Int)]) h
  exact ⟨b.fe.trans f, b.nE, f.k b.hE, Al.snoc ⟨t, _, _, _, rfl, upd_same, rfl, rfl, rfl⟩ (Al.mo f b.al)⟩
theorem RB.fin {H0 H : Hp} {E : Addr} {es : List Nat} {vs : List V} {sts : List (Nat × Nat × Nat)} (b : RB H0 H E es vs sts) {S t R : Addr} {N : List Addr} (hS : H S = none) (n : Nat) (ht : (upd H S (.lst vs)) t = none) (nw : ∀ q, H0 q = none → q ∉ N) (hE : E ≠ R) (hSR : S ≠ R) :
    Fe H0 (upd (upd H S (.lst vs)) t (.tup [.int (n : Int), .ref E, .ref S])) ∧ rRow R N (upd (upd H S (.lst vs)) t (.tup [.int (n : Int), .ref E, .ref S])) (.ref t) (n, es, sts) := by
  have f1 := Fe.new (o := .lst vs) hS
  have f2 := Fe.new (o := .tup [.int (n : Int), .ref E, .ref S]) ht
  exact ⟨(b.fe.trans f1).trans f2, t, E, S, vs, rfl, upd_same, f2.k (f1.k b.hE), f2.k upd_same, Al.mo f2 (Al.mo f1 b.al), hE, hSR, nw _ b.nE, nw _ (b.fe.free hS)⟩
def rowsL (a b : Nat) : List HRow := [(2, [0, 1], [(0, a, 0), (0, b, 1), (1, b, 1)]), (2, [0], [(0, a, 1), (1, b, 0)]), (3, [2], [(0, a, 0), (0, b, 0), (0, a, 1), (1, b, 2)]), (2, [0], [(0, a, 1), (0, b, 1), (1, a, 0), (1, b, 0)]),
  (4, [2, 3], [(0, a, 1), (1, a, 2), (0, b, 3), (3, b, 2)]), (3, [1, 2], [(0, a, 1), (1, a, 1), (0, b, 2), (2, a, 2), (2, b, 1)])]
/-- what is asked of a row -/
structure RowOk (a b n : Nat) (el : List Nat) (sts : List (Nat × Nat × Nat)) : Prop where
  n0 : 0 < n
  n5 : n ≤ 5
  es : ∀ q ∈ el, q < n
  fewE : el.length ≤ 5
  st : ∀ s ∈ sts, s.1 < n ∧ s.2.2 < n ∧ s.2.1 ∈ [a, b]
  fewS : sts.length ≤ 8
theorem rowsL_ok (a b : Nat) : ∀ r ∈ rowsL a b, (r.1 ≤ 4 ∧ r.2.2.length ≤ 5) ∧ RowOk a b r.1 r.2.1 r.2.2 := by
  intro r hr
  unfold rowsL at hr
  simp only [List.mem_cons, List.not_mem_nil, or_false] at hr
  rcases hr with rfl | rfl | rfl | rfl | rfl | rfl
  all_goals
    refine ⟨⟨by simp, by simp⟩, ⟨by simp, by simp, by simp, by simp, fun s hs => ?_, by simp⟩⟩
    simp only [List.mem_cons, List.not_mem_nil, or_false] at hs
    first
      | (rcases hs with rfl | rfl | rfl | rfl | rfl <;> simp)
      | (rcases hs with rfl | rfl | rfl | rfl <;> simp)
      | (rcases hs with rfl | rfl | rfl <;> simp)
      | (rcases hs with rfl | rfl <;> simp)
def spHouse : Sp := fun vs H Q _ => ∃ (p g : Addr) (a b : Nat), vs = [.ref p, s1 a, s1 b] ∧ Pl H p g ∧ ∀ (v : V) (m : Mach) (H' : Hp), Fx [p, g] H H' → Pl H' p g → rMach H' v m → MOk m → m.1 ≤ 5 → (∀ s ∈ m.2.2, s.2.1 ∈ [a, b]) → m.2.2.length ≤ 10 → m.2.1.length ≤ 20 → Q v H'
theorem Fe.newK {H : Hp} {p : Addr} {o : HO} (h : H p = none) : Fe H (upd H p o) ∧ (upd H p o) p = some o := ⟨Fe.new h, upd_same⟩
theorem Fx.putK {M : List Addr} {H : Hp} {p : Addr} {o u : HO} (hp : H p = some u) (hM : p ∈ M) (hu : ∀ xs, u ≠ .tup xs) : Fx M H (upd H p o) ∧ (upd H p o) p = some o := ⟨Fx.put hp hM hu, upd_same⟩
theorem RB.ff {H0 H : Hp} {E : Addr} {es : List Nat} {vs : List V} {sts : List (Nat × Nat × Nat)} (b : RB H0 H E es vs sts) {S t : Addr} (hS : H S = none) (n : Nat) (ht : (upd H S (.lst vs)) t = none) :
    Fe H0 (upd (upd H S (.lst vs)) t (.tup [.int (n : Int), .ref E, .ref S])) ∧ (upd (upd H S (.lst vs)) t (.tup [.int (n : Int), .ref E, .ref S])) E = some (.lst (es.map vN)) ∧ (upd (upd H S (.lst vs)) t (.tup [.int (n : Int), .ref E, .ref S])) S = some (.lst vs) := by
  have f1 := Fe.new (o := .lst vs) hS
  have f2 := Fe.new (o := .tup [.int (n : Int), .ref E, .ref S]) ht
  exact ⟨(b.fe.trans f1).trans f2, f2.k (f1.k b.hE), f2.k upd_same⟩
theorem RB.fi {H0 H : Hp} {E : Addr} {es : List Nat} {vs : List V} {sts : List (Nat × Nat × Nat)} (b : RB H0 H E es vs sts) {S t R : Addr} {N : List Addr} {o : HO} (hS : H S = none) (n : Nat) (ht : (upd H S (.lst vs)) t = none) (nw : ∀ q, H0 q = none → q ∉ N) (hR : H0 R = some o) :
    Fe H0 (upd (upd H S (.lst vs)) t (.tup [.int (n : Int), .ref E, .ref S])) ∧ rRow R N (upd (upd H S (.lst vs)) t (.tup [.int (n : Int), .ref E, .ref S])) (.ref t) (n, es, sts) :=
  b.fin hS n ht nw (ne_of_none hR b.nE).symm (ne_of_none hR (b.fe.free hS)).symm
def HWi (p g : Addr) (a b kd n : Nat) (R E S N L : Addr) (H : Hp) (es : List Nat) (vs : List V) (sts : List (Nat × Nat × Nat)) (m : Nat) (σ' : L2.St) (H' : Hp) : Prop :=
  ∃ nums lft : List Nat, σ' = [some (.ref p), some (s1 a), some (s1 b), some (.int (kd : Int)), some (.ref R), some (.int (n : Int)), some (.ref E), some (.ref S), some (.ref N), some (.ref L), none, none, none, none] ∧ Fx [p, g] H H' ∧ Pl H' p g ∧
    H' E = some (.lst (es.map vN)) ∧ H' S = some (.lst vs) ∧ Al rStep H' vs sts ∧ H' N = some (.lst (nums.map vN)) ∧ H' L = some (.lst (lft.map vN)) ∧ (nums ++ lft).Perm (List.range n) ∧ m = lft.length
section
variable {P : Program} {w : World} {K : PySem.W.Frag} {g : Str → Option Value} {base : Heap}
theorem ok_law_house (T : Txt K g) : FnOk P w K g base CX0 2 T.d_law_house.f T.d_law_house.fd P_law_house spHouse := by
  refine T.d_law_house.F.ok sc_law_house (fun vs H Q E h => ?_) (fun cdv A outer s H vs Q E hr h => ?_)
  · obtain ⟨_, _, _, _, rfl, _⟩ := h
    rfl
  · obtain ⟨p, g, a, b, rfl, hP, kk⟩ := h
    have hu := hu_of hr
    refine ⟨_, (pss_cons (ps_set (i := 3) sc_law_house.nd rfl (by first | exact Or.inl rfl | exact Or.inr rfl) (pe_call (ok_law_draw T) (hr.mono (by decide)) rfl T.d_law_draw.mg T.d_law_draw.kp T.d_law_draw.b .nil pass0 (pa_cons (pv 0) (pa_cons pe_int pa_nil))))
    (pss_cons (ps_set (i := 4) sc_law_house.nd rfl (by first | exact Or.inl rfl | exact Or.inr rfl) (pe_lst (pa_cons (pe_tup (pa_cons pe_int (pa_cons (pe_lst (pa_cons pe_int (pa_cons pe_int pa_nil))) (pa_cons (pe_lst (pa_cons (pe_tup (pa_cons pe_int (pa_cons (pv 1) (pa_cons pe_int pa_nil)))) (pa_cons (pe_tup (pa_cons pe_int (pa_cons (pv 2) (pa_cons pe_int pa_nil)))) (pa_cons (pe_tup (pa_cons pe_int (pa_cons (pv 2) (pa_cons pe_int pa_nil)))) pa_nil)))) pa_nil)))) (pa_cons (pe_tup (pa_cons pe_int (pa_cons (pe_lst (pa_cons pe_int pa_nil)) (pa_cons (pe_lst (pa_cons (pe_tup (pa_cons pe_int (pa_cons (pv 1) (pa_cons pe_int pa_nil)))) (pa_cons (pe_tup (pa_cons pe_int (pa_cons (pv 2) (pa_cons pe_int pa_nil)))) pa_nil))) pa_nil)))) pa_nil))))
    (pss_cons (ps_expr (ke_bm (K := K) rfl PySem.F.plainAttrs_list PySem.F.slot_list_append PySem.F.type_list_append mt_append (pv 4) (pa_cons (pe_tup (pa_cons pe_int (pa_cons (pe_lst (pa_cons pe_int pa_nil)) (pa_cons (pe_lst (pa_cons (pe_tup (pa_cons pe_int (pa_cons (pv 1) (pa_cons pe_int pa_nil)))) (pa_cons (pe_tup (pa_cons pe_int (pa_cons (pv 2) (pa_cons pe_int pa_nil)))) (pa_cons (pe_tup (pa_cons pe_int (pa_cons (pv 1) (pa_cons pe_int pa_nil)))) (pa_cons (pe_tup (pa_cons pe_int (pa_cons (pv 2) (pa_cons pe_int pa_nil)))) pa_nil))))) pa_nil)))) pa_nil)))
    (pss_cons (ps_expr (ke_bm (K := K) rfl PySem.F.plainAttrs_list PySem.F.slot_list_append PySem.F.type_list_append mt_append (pv 4) (pa_cons (pe_tup (pa_cons pe_int (pa_cons (pe_lst (pa_cons pe_int pa_nil)) (pa_cons (pe_lst (pa_cons (pe_tup (pa_cons pe_int (pa_cons (pv 1) (pa_cons pe_int pa_nil)))) (pa_cons (pe_tup (pa_cons pe_int (pa_cons (pv 2) (pa_cons pe_int pa_nil)))) (pa_cons (pe_tup (pa_cons pe_int (pa_cons (pv 1) (pa_cons pe_int pa_nil)))) (pa_cons (pe_tup (pa_cons pe_int (pa_cons (pv 2) (pa_cons pe_int pa_nil)))) pa_nil))))) pa_nil)))) pa_nil)))
    (pss_cons (ps_expr (ke_bm (K := K) rfl PySem.F.plainAttrs_list PySem.F.slot_list_append PySem.F.type_list_append mt_append (pv 4) (pa_cons (pe_tup (pa_cons pe_int (pa_cons (pe_lst (pa_cons pe_int (pa_cons pe_int pa_nil))) (pa_cons (pe_lst (pa_cons (pe_tup (pa_cons pe_int (pa_cons (pv 1) (pa_cons pe_int pa_nil)))) (pa_cons (pe_tup (pa_cons pe_int (pa_cons (pv 1) (pa_cons pe_int pa_nil)))) (pa_cons (pe_tup (pa_cons pe_int (pa_cons (pv 2) (pa_cons pe_int pa_nil)))) (pa_cons (pe_tup (pa_cons pe_int (pa_cons (pv 2) (pa_cons pe_int pa_nil)))) pa_nil))))) pa_nil)))) pa_nil)))
    (pss_cons (ps_expr (ke_bm (K := K) rfl PySem.F.plainAttrs_list PySem.F.slot_list_append PySem.F.type_list_append mt_append (pv 4) (pa_cons (pe_tup (pa_cons pe_int (pa_cons (pe_lst (pa_cons pe_int (pa_cons pe_int pa_nil))) (pa_cons (pe_lst (pa_cons (pe_tup (pa_cons pe_int (pa_cons (pv 1) (pa_cons pe_int pa_nil)))) (pa_cons (pe_tup (pa_cons pe_int (pa_cons (pv 1) (pa_cons pe_int pa_nil)))) (pa_cons (pe_tup (pa_cons pe_int (pa_cons (pv 2) (pa_cons pe_int pa_nil)))) (pa_cons (pe_tup (pa_cons pe_int (pa_cons (pv 1) (pa_cons pe_int pa_nil)))) (pa_cons (pe_tup (pa_cons pe_int (pa_cons (pv 2) (pa_cons pe_int pa_nil)))) pa_nil)))))) pa_nil)))) pa_nil)))
    (pss_cons (ps_asg (pe_ix (kx_list (K := K) rfl) (pv 4) (pv 3) (fun _ _ => rfl)) (kg_tup (K := K) 3 rfl rfl (pgs_cons (pg_name (i := 5) sc_law_house.nd rfl (by first | exact Or.inl rfl | exact Or.inr rfl)) (pgs_cons (pg_name (i := 6) sc_law_house.nd rfl (by first | exact Or.inl rfl | exact Or.inr rfl)) (pgs_cons (pg_name (i := 7) sc_law_house.nd rfl (by first | exact Or.inl rfl | exact Or.inr rfl)) pgs_nil)))))
    (Evl.pss_cut (ps_if (pt_cmpR op_eq (pe_call (ok_law_draw T) (hr.mono (by decide)) rfl T.d_law_draw.mg T.d_law_draw.kp T.d_law_draw.b .nil pass0 (pa_cons (pv 0) (pa_cons pe_int pa_nil))) pe_int (nomark _))
      (pss_cons (ps_set (i := 7) sc_law_house.nd rfl (by first | exact Or.inl rfl | exact Or.inr rfl) (pe_op op_cat (pv 7) (pe_lst (pa_cons (pe_tup (pa_cons pe_int (pa_cons (pv 2) (pa_cons (pv 5) pa_nil)))) (pa_cons (pe_tup (pa_cons (pv 5) (pa_cons (pv 1) (pa_cons (pv 5) pa_nil)))) pa_nil)))))
      (pss_one (ps_aug (i := 5) sc_law_house.nd rfl (by first | exact Or.inl rfl | exact Or.inr rfl) pe_int ip_add)))
      pss_nil)
    (pss_cons (ps_set (i := 8) sc_law_house.nd rfl (by first | exact Or.inl rfl | exact Or.inr rfl) (pe_lst (pa_cons pe_int pa_nil)))
    (pss_cons (ps_set (i := 9) sc_law_house.nd rfl (by first | exact Or.inl rfl | exact Or.inr rfl) (pe_listRg rfl rfl T.z_list (prg_2 rfl T.z_range pe_int (pv 5))))
    (pss_cons (ps_while PassesOwn.never (pt_cmpR op_gt (pe_callB (kc_len (K := K) rfl) (by rfl) T.z_len PySem.boot_len (pa_cons (pv 9) pa_nil)) pe_int (nomark _))
      (pss_one (ps_expr (ke_bm (K := K) rfl PySem.F.plainAttrs_list PySem.F.slot_list_append PySem.F.type_list_append mt_append (pv 8) (pa_cons (ke_bm (K := K) rfl PySem.F.plainAttrs_list PySem.F.slot_list_pop PySem.F.type_list_pop mt_popAt (pv 9) (pa_cons (pe_call (ok_law_draw T) (hr.mono (by decide)) rfl T.d_law_draw.mg T.d_law_draw.kp T.d_law_draw.b .nil pass0 (pa_cons (pv 0) (pa_cons (pe_callB (kc_len (K := K) rfl) (by rfl) T.z_len PySem.boot_len (pa_cons (pv 9) pa_nil)) pa_nil))) pa_nil)) pa_nil)))))
    (pss_cons (ps_setLc (i := 10) (own := [("p", 11), ("x", 12), ("q", 13)]) rfl sc_law_house.nd rfl rfl (sw_true rfl rfl rfl (by decide +kernel)) (ki_list (K := K) rfl (pv 7)) (blkOk_by (N := N_law_house) (sc := defScope s_law_house) (by decide +kernel)) (fun _ _ _ _ _ => by exact (kg_tup (K := K) 3 rfl rfl (pgs_cons (pg_name (i := 11) sc_law_house.nd rfl (by first | exact Or.inl rfl | exact Or.inr rfl)) (pgs_cons (pg_name (i := 12) sc_law_house.nd rfl (by first | exact Or.inl rfl | exact Or.inr rfl)) (pgs_cons (pg_name (i := 13) sc_law_house.nd rfl (by first | exact Or.inl rfl | exact Or.inr rfl)) pgs_nil))))) (fun _ _ _ _ _ => by exact pts_nil) (fun _ _ _ _ _ => by exact (pe_tup (pa_cons (pe_ix (kx_list (K := K) rfl) (pv 8) (pv 11) (fun _ _ => rfl)) (pa_cons (pv 12) (pa_cons (pe_ix (kx_list (K := K) rfl) (pv 8) (pv 13) (fun _ _ => rfl)) pa_nil))))))
    (pss_one (ps_ret (pe_tup (pa_cons (pv 5) (pa_cons (pe_callTy (kc_tuple (K := K) rfl) (by rfl) T.z_tuple (by decide +kernel) (pa_cons (pe_callB (kc_sorted (K := K) rfl) (by rfl) T.z_sorted (by decide +kernel) (pa_cons (pe_lc (own := [("q", 13)]) rfl sc_law_house.nd (ki_list (K := K) rfl (pv 6)) (blkOk_by (N := N_law_house) (sc := defScope s_law_house) (by decide +kernel)) (fun _ _ _ _ _ => by exact (pg_name (i := 13) sc_law_house.nd rfl (by first | exact Or.inl rfl | exact Or.inr rfl))) (fun _ _ _ _ _ => by exact pts_nil) (fun _ _ _ _ _ => by exact (pe_ix (kx_list (K := K) rfl) (pv 8) (pv 13) (fun _ _ => rfl)))) pa_nil)) pa_nil)) (pa_cons (pe_callTy (kc_tuple (K := K) rfl) (by rfl) T.z_tuple (by decide +kernel) (pa_cons (pe_callB (kc_sortedSetT (K := K) (P := P) (w := w) rfl rfl rfl rfl) (by rfl) T.z_sorted (by decide +kernel) (pa_cons (pe_callTy (kc_setT (K := K) (P := P) (w := w) rfl rfl rfl rfl hr.units) (by rfl) T.z_set (by decide +kernel) (pa_cons (pv 10) pa_nil)) pa_nil)) pa_nil)) pa_nil)))))))))))))))))), ?_⟩
    refine ⟨_, rfl, p, g, 6, rfl, hP, by decide, by decide, fun kd H1 f1 P1 hkd => ?_⟩
    refine ⟨by show 2 ≤ sizeLine; decide, fun E0 hE0 => ?_⟩
    have b0_0 := RB.start [0, 1] hE0
    refine ⟨_, rfl, by show 3 ≤ sizeLine; decide, fun t0_0 ht0_0 => ?_⟩
    have b0_1 := b0_0.tup ht0_0 0 a 0
    refine ⟨_, rfl, by show 3 ≤ sizeLine; decide, fun t0_1 ht0_1 => ?_⟩
    have b0_2 := b0_1.tup ht0_1 0 b 1
    refine ⟨_, rfl, by show 3 ≤ sizeLine; decide, fun t0_2 ht0_2 => ?_⟩
    have b0_3 := b0_2.tup ht0_2 1 b 1
    refine ⟨by show 3 ≤ sizeLine; decide, fun S0 hS0 => ⟨by show 3 ≤ sizeLine; decide, fun u0 hu0 => ?_⟩⟩
    have ff0 := b0_3.ff hS0 2 hu0
    refine ⟨by show 1 ≤ sizeLine; decide, fun E1 hE1 => ?_⟩
    have b1_0 := RB.start [0] hE1
    refine ⟨_, rfl, by show 3 ≤ sizeLine; decide, fun t1_0 ht1_0 => ?_⟩
    have b1_1 := b1_0.tup ht1_0 0 a 1
    refine ⟨_, rfl, by show 3 ≤ sizeLine; decide, fun t1_1 ht1_1 => ?_⟩
    have b1_2 := b1_1.tup ht1_1 1 b 0
    refine ⟨by show 2 ≤ sizeLine; decide, fun S1 hS1 => ⟨by show 3 ≤ sizeLine; decide, fun u1 hu1 => ?_⟩⟩
    have ff1 := b1_2.ff hS1 2 hu1
    refine ⟨by show 2 ≤ sizeLine; decide, fun R hR => ?_⟩
    have q0 := b0_3.fin hS0 2 hu0 (fun q hq => P1.nw hq) (ne_of_none (ff1.1.k ff0.2.1) hR) (ne_of_none (ff1.1.k ff0.2.2) hR)
    have q1 := b1_2.fin hS1 2 hu1 (fun q hq => (P1.keep ff0.1).nw hq) (ne_of_none ff1.2.1 hR) (ne_of_none ff1.2.2 hR)
    obtain ⟨fR, k1⟩ := Fe.newK (o := .lst [.ref u0, .ref u1]) hR
    have hR0 : H1 R = none := ff0.1.free (ff1.1.free hR)
    have e1 : Fe H1 _ := (ff0.1.trans ff1.1).trans fR
    have al1 : Al (rRow R [p, g]) _ [.ref u0, .ref u1] ((rowsL a b).take 2) := .cons (rRow.f q0.2 (ff1.1.trans fR).to) (.cons (rRow.f q1.2 fR.to) .nil)
    refine ⟨_, rfl, .inl ⟨rfl, _, SqL.of k1⟩, ?_⟩
    refine ⟨by show 1 ≤ sizeLine; decide, fun E2 hE2 => ?_⟩
    have b2_0 := RB.start [2] hE2
    refine ⟨_, rfl, by show 3 ≤ sizeLine; decide, fun t2_0 ht2_0 => ?_⟩
    have b2_1 := b2_0.tup ht2_0 0 a 0
    refine ⟨_, rfl, by show 3 ≤ sizeLine; decide, fun t2_1 ht2_1 => ?_⟩
    have b2_2 := b2_1.tup ht2_1 0 b 0
    refine ⟨_, rfl, by show 3 ≤ sizeLine; decide, fun t2_2 ht2_2 => ?_⟩
    have b2_3 := b2_2.tup ht2_2 0 a 1
    refine ⟨_, rfl, by show 3 ≤ sizeLine; decide, fun t2_3 ht2_3 => ?_⟩
    have b2_4 := b2_3.tup ht2_3 1 b 2
    refine ⟨by show 4 ≤ sizeLine; decide, fun S2 hS2 => ⟨by show 3 ≤ sizeLine; decide, fun u2 hu2 => ?_⟩⟩
    have q2 := b2_4.fi hS2 3 hu2 (fun q hq => (P1.keep e1).nw hq) k1
    refine ⟨R, [.ref u0, .ref u1], _, rfl, rfl, q2.1.k k1, by show 2 < sizeLine; decide, ?_⟩
    obtain ⟨x2, k2⟩ := Fx.putK (M := [R]) (o := .lst ([.ref u0, .ref u1] ++ [.ref u2])) (q2.1.k k1) (List.mem_singleton.mpr rfl) (fun _ z => nomatch z)
    have al2 := Al.snoc (rRow.f q2.2 x2) (rRow.al (rRow.al al1 q2.1.to) x2)
    have e2 := (e1.trans q2.1).mut (o := .lst ([.ref u0, .ref u1] ++ [.ref u2])) hR0
    clear x2 q2
    refine ⟨_, rfl, .inl ⟨rfl, _, SqL.of k2⟩, ?_⟩
    refine ⟨by show 1 ≤ sizeLine; decide, fun E3 hE3 => ?_⟩
    have b3_0 := RB.start [0] hE3
    refine ⟨_, rfl, by show 3 ≤ sizeLine; decide, fun t3_0 ht3_0 => ?_⟩
    have b3_1 := b3_0.tup ht3_0 0 a 1
    refine ⟨_, rfl, by show 3 ≤ sizeLine; decide, fun t3_1 ht3_1 => ?_⟩
    have b3_2 := b3_1.tup ht3_1 0 b 1
    refine ⟨_, rfl, by show 3 ≤ sizeLine; decide, fun t3_2 ht3_2 => ?_⟩
    have b3_3 := b3_2.tup ht3_2 1 a 0
    refine ⟨_, rfl, by show 3 ≤ sizeLine; decide, fun t3_3 ht3_3 => ?_⟩
    have b3_4 := b3_3.tup ht3_3 1 b 0
    refine ⟨by show 4 ≤ sizeLine; decide, fun S3 hS3 => ⟨by show 3 ≤ sizeLine; decide, fun u3 hu3 => ?_⟩⟩
    have q3 := b3_4.fi hS3 2 hu3 (fun q hq => (P1.keep e2).nw hq) k2
    refine ⟨R, [.ref u0, .ref u1, .ref u2], _, rfl, rfl, q3.1.k k2, by show 3 < sizeLine; decide, ?_⟩
    obtain ⟨x3, k3⟩ := Fx.putK (M := [R]) (o := .lst ([.ref u0, .ref u1, .ref u2] ++ [.ref u3])) (q3.1.k k2) (List.mem_singleton.mpr rfl) (fun _ z => nomatch z)
    have al3 := Al.snoc (rRow.f q3.2 x3) (rRow.al (rRow.al al2 q3.1.to) x3)
    have e3 := (e2.trans q3.1).mut (o := .lst ([.ref u0, .ref u1, .ref u2] ++ [.ref u3])) hR0
    clear x3 q3
    refine ⟨_, rfl, .inl ⟨rfl, _, SqL.of k3⟩, ?_⟩
    refine ⟨by show 2 ≤ sizeLine; decide, fun E4 hE4 => ?_⟩
    have b4_0 := RB.start [2, 3] hE4
    refine ⟨_, rfl, by show 3 ≤ sizeLine; decide, fun t4_0 ht4_0 => ?_⟩
    have b4_1 := b4_0.tup ht4_0 0 a 1
    refine ⟨_, rfl, by show 3 ≤ sizeLine; decide, fun t4_1 ht4_1 => ?_⟩
    have b4_2 := b4_1.tup ht4_1 1 a 2
    refine ⟨_, rfl, by show 3 ≤ sizeLine; decide, fun t4_2 ht4_2 => ?_⟩
    have b4_3 := b4_2.tup ht4_2 0 b 3
    refine ⟨_, rfl, by show 3 ≤ sizeLine; decide, fun t4_3 ht4_3 => ?_⟩
    have b4_4 := b4_3.tup ht4_3 3 b 2
    refine ⟨by show 4 ≤ sizeLine; decide, fun S4 hS4 => ⟨by show 3 ≤ sizeLine; decide, fun u4 hu4 => ?_⟩⟩
    have q4 := b4_4.fi hS4 4 hu4 (fun q hq => (P1.keep e3).nw hq) k3
    refine ⟨R, [.ref u0, .ref u1, .ref u2, .ref u3], _, rfl, rfl, q4.1.k k3, by show 4 < sizeLine; decide, ?_⟩
    obtain ⟨x4, k4⟩ := Fx.putK (M := [R]) (o := .lst ([.ref u0, .ref u1, .ref u2, .ref u3] ++ [.ref u4])) (q4.1.k k3) (List.mem_singleton.mpr rfl) (fun _ z => nomatch z)
    have al4 := Al.snoc (rRow.f q4.2 x4) (rRow.al (rRow.al al3 q4.1.to) x4)
    have e4 := (e3.trans q4.1).mut (o := .lst ([.ref u0, .ref u1, .ref u2, .ref u3] ++ [.ref u4])) hR0
    clear x4 q4
    refine ⟨_, rfl, .inl ⟨rfl, _, SqL.of k4⟩, ?_⟩
    refine ⟨by show 2 ≤ sizeLine; decide, fun E5 hE5 => ?_⟩
    have b5_0 := RB.start [1, 2] hE5
    refine ⟨_, rfl, by show 3 ≤ sizeLine; decide, fun t5_0 ht5_0 => ?_⟩
    have b5_1 := b5_0.tup ht5_0 0 a 1
    refine ⟨_, rfl, by show 3 ≤ sizeLine; decide, fun t5_1 ht5_1 => ?_⟩
    have b5_2 := b5_1.tup ht5_1 1 a 1
    refine ⟨_, rfl, by show 3 ≤ sizeLine; decide, fun t5_2 ht5_2 => ?_⟩
    have b5_3 := b5_2.tup ht5_2 0 b 2
    refine ⟨_, rfl, by show 3 ≤ sizeLine; decide, fun t5_3 ht5_3 => ?_⟩
    have b5_4 := b5_3.tup ht5_3 2 a 2
    refine ⟨_, rfl, by show 3 ≤ sizeLine; decide, fun t5_4 ht5_4 => ?_⟩
    have b5_5 := b5_4.tup ht5_4 2 b 1
    refine ⟨by show 5 ≤ sizeLine; decide, fun S5 hS5 => ⟨by show 3 ≤ sizeLine; decide, fun u5 hu5 => ?_⟩⟩
    have q5 := b5_5.fi hS5 3 hu5 (fun q hq => (P1.keep e4).nw hq) k4
    refine ⟨R, [.ref u0, .ref u1, .ref u2, .ref u3, .ref u4], _, rfl, rfl, q5.1.k k4, by show 5 < sizeLine; decide, ?_⟩
    obtain ⟨x5, k5⟩ := Fx.putK (M := [R]) (o := .lst ([.ref u0, .ref u1, .ref u2, .ref u3, .ref u4] ++ [.ref u5])) (q5.1.k k4) (List.mem_singleton.mpr rfl) (fun _ z => nomatch z)
    have al5 := Al.snoc (rRow.f q5.2 x5) (rRow.al (rRow.al al4 q5.1.to) x5)
    have e5 := (e4.trans q5.1).mut (o := .lst ([.ref u0, .ref u1, .ref u2, .ref u3, .ref u4] ++ [.ref u5])) hR0
    clear x5 q5
    have al6 : Al (rRow R [p, g]) _ _ (rowsL a b) := al5
    clear al1 al2 al3 al4 al5 ff0 ff1 q0 q1 k1 k2 k3 k4
    obtain ⟨x, hx⟩ : ∃ x, (rowsL a b)[kd]? = some x := ⟨_, List.getElem?_eq_getElem (show kd < (rowsL a b).length from hkd)⟩
    obtain ⟨xv, hxv, t, E, S, vs, rfl, ht, hE, hS, hal, _, _, nE, nS⟩ := al6.at hx
    obtain ⟨⟨hx4, hx5⟩, hxo⟩ := rowsL_ok a b x (List.mem_of_getElem? hx)
    have P6 := P1.keep e5
    have f6 := f1.trans e5.to
    refine ⟨_, rfl, _, rfl, R, _, _, .ref t, rfl, rfl, SqL.of k5, atI_nat hxv, t, _, rfl, SqT.of ht, rfl, _, _, rfl, _, _, rfl, _, _, rfl, rfl, ?_⟩
    refine ⟨fun σ' H' => ∃ (n : Nat) (es : List Nat) (E S : Addr) (vs : List V) (sts : List (Nat × Nat × Nat)), σ' = [some (.ref p), some (s1 a), some (s1 b), some (.int (kd : Int)), some (.ref R), some (.int (n : Int)), some (.ref E), some (.ref S), none, none, none, none, none, none] ∧ Fx [p, g] H H' ∧ Pl H' p g ∧
      E ∉ [p, g] ∧ S ∉ [p, g] ∧ H' E = some (.lst (es.map vN)) ∧ H' S = some (.lst vs) ∧ Al rStep H' vs sts ∧ RowOk a b n es sts, ?_, ?_⟩
    · refine ⟨_, rfl, p, g, 2, rfl, P6, by decide, by decide, fun r H3 f3 P3 hr2 => ⟨rfl, _, rfl, ?_⟩⟩
      have hE3 := f3.keep _ _ nE hE
      have hS3 := f3.keep _ _ nS hS
      have al3 := Al.mo f3 hal
      refine ite2 (fun _ => ?_) (fun _ => ?_)
      · refine ⟨_, rfl, _, rfl, _, rfl, by show 3 ≤ sizeLine; decide, fun T1 hT1 => ?_⟩
        refine ⟨_, rfl, _, rfl, _, rfl, by show 3 ≤ sizeLine; decide, fun T2 hT2 => ?_⟩
        refine ⟨by show 2 ≤ sizeLine; decide, fun L hL => ?_⟩
        have g1 := Fe.new (o := .tup [.int 0, s1 b, .int (x.1 : Int)]) hT1
        have g2 := Fe.new (o := .tup [.int (x.1 : Int), s1 a, .int (x.1 : Int)]) hT2
        have g3 := Fe.new (o := .lst [.ref T1, .ref T2]) hL
        have hvl := al3.len
        have h8 := hxo.fewS
        refine ⟨S, L, vs, _, rfl, rfl, ((g1.trans g2).trans g3).k hS3, upd_same, by rw [sizeLine_eq]; show vs.length + 2 ≤ _; omega, fun S2 hS2 => ?_⟩
        have g4 := Fe.new (o := .lst (vs ++ [.ref T1, .ref T2])) hS2
        have g14 := ((g1.trans g2).trans g3).trans g4
        have P7 := P3.keep g14
        refine ⟨_, rfl, _, _, rfl, rfl, ?_⟩
        refine ⟨x.1 + 1, x.2.1, E, S2, _, x.2.2 ++ [(0, b, x.1), (x.1, a, x.1)], rfl, (f6.trans f3).trans g14.to, P7, nE, ((P3.keep ((g1.trans g2).trans g3)).nw hS2), g14.k hE3, upd_same, ?_, ?_⟩
        · refine Al.app (Al.mo g14 al3) (.cons ⟨T1, _, _, _, rfl, ((g2.trans g3).trans g4).k upd_same, rfl, rfl, rfl⟩ (.cons ⟨T2, _, _, _, rfl, (g3.trans g4).k upd_same, rfl, rfl, rfl⟩ .nil))
        · have h0 := hxo.n0
          refine ⟨by omega, by omega, fun q hq => Nat.lt_succ_of_lt (hxo.es q hq), hxo.fewE, fun s hs => ?_, ?_⟩
          · rcases List.mem_append.mp hs with hs | hs
            · have := hxo.st s hs
              exact ⟨by omega, by omega, this.2.2⟩
            · simp only [List.mem_cons, List.not_mem_nil, or_false] at hs
              rcases hs with rfl | rfl
              · exact ⟨by show 0 < x.1 + 1; omega, by show x.1 < x.1 + 1; omega, by simp⟩
              · exact ⟨by show x.1 < x.1 + 1; omega, by show x.1 < x.1 + 1; omega, by simp⟩
          · rw [List.length_append]
            show x.2.2.length + 2 ≤ 8
            omega
      · exact ⟨x.1, x.2.1, E, S, vs, x.2.2, rfl, f6.trans f3, P3, nE, nS, hE3, hS3, al3, hxo⟩
    · clear hxo hx5 hx4 hal hS hE ht nE nS hxv hx al6 f6 P6
      rintro σ' H2 ⟨n, es, E, S, vs, sts, rfl, f2, P2, nE, nS, hE, hS, al, ok⟩
      have hn0 := ok.n0
      have hn5 := ok.n5
      refine ⟨by show 1 ≤ sizeLine; decide, fun N hN => ?_⟩
      have gN := Fe.new (o := .lst [.int 0]) hN
      refine ⟨_, rfl, _, _, rfl, rfl, .of_le (by decide) (by omega) (by decide) (by omega), fun L hL => ?_⟩
      have gL := Fe.new (o := .lst (rgV 1 (n : Int))) hL
      have hNL : N ≠ L := ne_of_none upd_same hL
      have g2 := gN.trans gL
      have erg : rgV 1 (n : Int) = ((List.range (n - 1)).map (· + 1)).map vN := by
        unfold rgV
        rw [List.map_map, show ((n : Int) - 1).toNat = n - 1 by omega]
        refine List.map_congr_left fun i _ => ?_
        show V.int (1 + (i : Int)) = V.int ((i + 1 : Nat) : Int)
        rw [show (1 + (i : Int)) = ((i + 1 : Nat) : Int) by omega]
      have nN := P2.nw hN
      have nL := P2.nw (gN.free hL)
      have P3 := P2.keep g2
      have f3 := f2.trans g2.to
      have hNn : H N = none := f2.fr nN hN
      have hLn : H L = none := f2.fr nL (gN.free hL)
      have neE : E ≠ N ∧ E ≠ L := ⟨ne_of_none hE hN, ne_of_none (gN.k hE) hL⟩
      have neS : S ≠ N ∧ S ≠ L := ⟨ne_of_none hS hN, ne_of_none (gN.k hS) hL⟩
      refine ⟨HWi p g a b kd n R E S N L H es vs sts, ⟨_, [0], (List.range (n - 1)).map (· + 1), rfl, f3, P3, g2.k hE, g2.k hS, Al.mo g2 al, gL.k upd_same, by rw [upd_same, erg], ?_, rfl⟩, ?_⟩
      · have : List.range n = 0 :: (List.range (n - 1)).map (· + 1) := by
          conv => lhs; rw [show n = (n - 1) + 1 by omega, List.range_succ_eq_map]
        rw [this]
        exact List.Perm.refl _
      clear P3 f3 gL g2 gN erg hE hS al hN hL P2 f2
      rintro m σ' H3 ⟨nums, lft, rfl, f3, P3, hE, hS, al, hNl, hLl, pm, rfl⟩
      refine ⟨_, rfl, L, _, rfl, .inl (SqL.of hLl), _, _, rfl, rfl, _, rfl, ?_⟩
      cases lft with
      | cons l0 ls0 =>
        rw [decide_eq_true (show ((((l0 :: ls0).map vN).length : Nat) : Int) > 0 by rw [List.length_map, List.length_cons]; omega)]
        refine iteT ⟨fun σ2 H2 => ∃ k', k' < (l0 :: ls0).length ∧ HWi p g a b kd n R E S N L H es vs sts k' σ2 H2, fun _ _ h => h, ?_⟩
        generalize hlf : l0 :: ls0 = lft at hLl pm
        have hlp : 0 < lft.length := by rw [← hlf]; exact Nat.succ_pos _
        have hlp2 : lft.length ≤ 5 := by
          have h1 := pm.length_eq
          rw [List.length_append, List.length_range] at h1
          omega
        have hnp2 : nums.length ≤ 5 := by
          have h1 := pm.length_eq
          rw [List.length_append, List.length_range] at h1
          omega
        clear hlf l0 ls0
        refine ⟨_, rfl, .inl ⟨rfl, _, SqL.of hNl⟩, _, rfl, .inl ⟨rfl, _, SqL.of hLl⟩, _, rfl, _, rfl, L, _, rfl, .inl (SqL.of hLl), ?_⟩
        refine ⟨p, g, lft.length, by rw [List.length_map]; rfl, P3, hlp, by omega, fun k H4 f4 P4 hk => ?_⟩
        have h1 := f4.keep _ _ nL hLl
        have h2 := f4.keep _ _ nN hNl
        obtain ⟨y, hlk⟩ : ∃ y, lft[k]? = some y := ⟨lft[k], List.getElem?_eq_getElem hk⟩
        have pme := erase_at hlk
        have hk' : k < (lft.map vN).length := by rw [List.length_map]; exact hk
        have hpl := pme.length_eq
        rw [List.length_cons] at hpl
        refine ⟨L, _, _, k, vN y, rfl, rfl, h1, by omega, by omega, (ixN_seq (ixn hk')).1, by rw [List.getElem?_map, hlk]; rfl, N, nums.map vN, _, rfl, rfl, ?_, by rw [List.length_map, sizeLine_eq]; omega, ?_⟩
        · rw [upd_ne hNL]; exact h2
        have fa : Fx [L] H4 (upd H4 L (.lst ((lft.map vN).eraseIdx k))) := Fx.put h1 (List.mem_singleton.mpr rfl) (fun _ z => nomatch z)
        have fb : Fx [N] (upd H4 L (.lst ((lft.map vN).eraseIdx k))) (upd (upd H4 L (.lst ((lft.map vN).eraseIdx k))) N (.lst (nums.map vN ++ [vN y]))) := Fx.put (u := .lst (nums.map vN)) (by rw [upd_ne hNL]; exact h2) (List.mem_singleton.mpr rfl) (fun _ z => nomatch z)
        refine ⟨(lft.eraseIdx k).length, by omega, nums ++ [y], lft.eraseIdx k, rfl, ((f3.trans f4).mu hLn).mu hNn, (P4.put nL).put nN, ?_, ?_, Al.mo fb (Al.mo fa (Al.mo f4 al)), by rw [upd_same, List.map_append]; rfl, ?_, ?_, rfl⟩
        · rw [upd_ne neE.1, upd_ne neE.2]; exact f4.keep _ _ nE hE
        · rw [upd_ne neS.1, upd_ne neS.2]; exact f4.keep _ _ nS hS
        · rw [upd_ne hNL.symm, upd_same, map_erase]
        · rw [List.append_assoc]
          exact (pme.append_left nums).trans pm
      | nil =>
        rw [decide_eq_false (show ¬ ((((([] : List Nat).map vN).length : Nat) : Int) > 0) by simp)]
        refine iteF ?_
        rw [List.append_nil] at pm
        have hnl : nums.length = n := by rw [pm.length_eq, List.length_range]
        have nat_ : ∀ q, q < n → ∃ y, nums[q]? = some y ∧ y < n := fun q hq => by
          have e : nums[q]? = some (nums[q]'(by omega)) := List.getElem?_eq_getElem (by omega)
          exact ⟨_, e, List.mem_range.mp (pm.mem_iff.mp (List.mem_of_getElem? e))⟩
        have hsl := al.len
        have h8 := ok.fewS
        -- moved
        refine ⟨_, rfl, S, rfl, ⟨_, SqL.of hS⟩, fun D hD => lc_list (xs := vs) (fun i H' => ∃ mv : List (Nat × Nat × Nat), Cmp rStep H3 D mv H' ∧ mv.length = i ∧ ∀ s ∈ mv, s.1 < n ∧ s.2.2 < n ∧ s.2.1 ∈ [a, b]) ⟨[], Cmp.start hD, rfl, fun _ z => nomatch z⟩ (fun i H' hi ⟨mv, c, _⟩ => SqL.of (c.fe.k hS)) (fun i xv H' hx c => ?_) (fun H4 c => ?_)⟩
        · obtain ⟨mv, c, hml, hmk⟩ := c
          obtain ⟨st, hst, hxr⟩ := al.get hx
          obtain ⟨u, x1, x2, x3, rfl, hu2, rfl, rfl, rfl⟩ := id hxr
          obtain ⟨k1, k2, k3⟩ := ok.st st (List.mem_of_getElem? hst)
          obtain ⟨y1, e1, l1⟩ := nat_ _ k1
          obtain ⟨y2, e2, l2⟩ := nat_ _ k2
          have hil := (List.getElem?_eq_some_iff.mp hst).1
          have hN' := c.fe.k hNl
          refine ⟨u, _, rfl, SqT.of (c.fe.k hu2), rfl, _, _, rfl, _, _, rfl, _, _, rfl, rfl, rfl, ?_⟩
          refine ⟨_, rfl, _, rfl, N, _, _, _, rfl, rfl, SqL.of hN', atI_nat (by rw [List.getElem?_map, e1]; rfl), _, rfl, _, rfl, _, rfl, N, _, _, _, rfl, rfl, SqL.of hN', atI_nat (by rw [List.getElem?_map, e2]; rfl), by show 3 ≤ sizeLine; decide, fun U hU => ?_⟩
          have fU := Fe.new (o := .tup [vN y1, s1 st.2.1, vN y2]) hU
          have hr : rStep _ (.ref U) (y1, st.2.1, y2) := ⟨U, _, _, _, rfl, upd_same (H := H') (o := .tup [vN y1, s1 st.2.1, vN y2]), rfl, rfl, rfl⟩
          obtain ⟨acc, g1, g2, g3⟩ := c.add (by omega) fU hr
          refine ⟨acc, g1, g2, _, g3, by rw [List.length_append, List.length_singleton]; omega, fun s hs => ?_⟩
          rcases List.mem_append.mp hs with hs | hs
          · exact hmk s hs
          · rw [List.mem_singleton.mp hs]; exact ⟨l1, l2, k3⟩
        · obtain ⟨mv, c, hml, hmk⟩ := c
          have hml2 : mv.length ≤ 8 := by omega
          obtain ⟨_, vs2, eD, hDv, al2⟩ := c.rl
          cases eD
          have hE4 := c.fe.k hE
          have hN4 := c.fe.k hNl
          have f34 := c.fe
          have P4 := P3.keep f34
          -- the ends
          refine ⟨_, rfl, _, rfl, E, rfl, ⟨_, SqL.of hE4⟩, fun D2 hD2 => lc_list (xs := es.map vN) (fun i H' => ∃ l : List Nat, Cmp rN H4 D2 l H' ∧ l.length = i ∧ ∀ q ∈ l, q < n) ⟨[], Cmp.start hD2, rfl, fun _ z => nomatch z⟩ (fun i H' hi ⟨l, c, _⟩ => SqL.of (c.fe.k hE4)) (fun i xv H' hx c => ?_) (fun H5 c => ?_)⟩
          · obtain ⟨l, c, hll, hlk⟩ := c
            rw [List.getElem?_map] at hx
            obtain ⟨q, hq, rfl⟩ : ∃ q, es[i]? = some q ∧ xv = vN q := by
              cases e : es[i]? with
              | none => rw [e] at hx; cases hx
              | some q => rw [e] at hx; exact ⟨q, rfl, (Option.some.inj hx).symm⟩
            have hqn := ok.es q (List.mem_of_getElem? hq)
            obtain ⟨y1, e1, l1⟩ := nat_ _ hqn
            have hil := (List.getElem?_eq_some_iff.mp hq).1
            have h5 := ok.fewE
            refine ⟨rfl, ?_⟩
            refine ⟨_, rfl, _, rfl, N, _, _, _, rfl, rfl, SqL.of (c.fe.k hN4), atI_nat (by rw [List.getElem?_map, e1]; rfl), ?_⟩
            obtain ⟨acc, g1, g2, g3⟩ := c.add (by omega) (Fx.refl _ _) (show rN _ (vN y1) y1 from rfl)
            refine ⟨acc, g1, g2, _, g3, by rw [List.length_append, List.length_singleton]; omega, fun s hs => ?_⟩
            rcases List.mem_append.mp hs with hs | hs
            · exact hlk s hs
            · rw [List.mem_singleton.mp hs]; exact l1
          · obtain ⟨l, c, hll, hlk⟩ := c
            rw [List.length_map] at hll
            have h5 := ok.fewE
            obtain ⟨_, vs3, eD2, hD2v, al3⟩ := c.rl
            cases eD2
            have hn3 := al3.nats
            subst hn3
            refine ⟨D2, l.map (fun n : Nat => (n : Int)), rfl, by rw [List.map_map]; exact SqL.of hD2v, by rw [List.length_map]; omega, fun ys q hpm _ hq => ?_⟩
            obtain ⟨l', rfl, hpl⟩ := perm_nats hpm
            have fq := Fe.new (o := .lst ((l'.map fun n : Nat => (n : Int)).map V.int)) hq
            refine ⟨q, _, rfl, .inl ⟨SqL.of upd_same, fun U hU => ?_⟩⟩
            have fU := Fe.new (o := .tup ((l'.map fun n : Nat => (n : Int)).map V.int)) hU
            have f4U := (c.fe.trans fq).trans fU
            have hSU := f4U.k hDv
            have alU := Al.mo f4U al2
            obtain ⟨ks, rfl, hkl, hk⟩ := tl_of stK (fun v x h => step_key h) alU
            refine ⟨_, rfl, D, ks, rfl, SqL.of hSU, fun p hp => ?_, by omega, fun a' L' ha hsub hlen => ?_⟩
            · obtain ⟨_, _, _, h⟩ := hk p hp
              exact SqT.of h
            have g1 := Fe.new (o := SetMO P w a' L') ha
            refine ⟨a', L', [false, true, false], rfl, upd_same, fun p hp => ?_, by decide, fun L2 q2 hpm2 hq2 => ?_⟩
            · obtain ⟨s, _, e, h⟩ := hk p (hsub p hp)
              exact ⟨SqT.of (g1.k h), by rw [e]; rfl⟩
            have g2 := g1.trans (Fe.new (o := .lst (L2.map fun q => V.ref q.1)) hq2)
            refine ⟨q2, _, rfl, .inl ⟨SqL.of upd_same, fun u hu => ?_⟩⟩
            have g3 := g2.trans (Fe.new (o := .tup (L2.map fun q => V.ref q.1)) hu)
            obtain ⟨sl, hal, hsub2, hlen2⟩ := steps_back hk hsub hpm2 g3
            refine ⟨by show 3 ≤ sizeLine; decide, fun Z hZ => ?_⟩
            have gZ := Fe.new (o := .tup [.int (n : Int), .ref U, .ref u]) hZ
            have ft := (f4U.trans g3).trans gZ
            have l'n : ∀ q ∈ l', q < n := fun q hq => hlk q (hpl.mem_iff.mp hq)
            refine kk _ (n, l', sl) _ ((f3.trans f34.to).trans ft.to) (P4.keep ft) ⟨Z, _, _, _, rfl, upd_same, rfl, ⟨U, _, rfl, (g3.trans gZ).k upd_same, by rw [List.map_map]; exact Al.ofNats l'⟩, ⟨u, _, rfl, gZ.k upd_same, Al.mo gZ hal⟩⟩ ⟨hn0, by show n ≤ 1000; omega, l'n, fun s hs => ⟨(hmk s (hsub2 s hs)).1, (hmk s (hsub2 s hs)).2.1⟩, by show sl.length ≤ 100; omega⟩ hn5 (fun s hs => (hmk s (hsub2 s hs)).2.2) (by show sl.length ≤ 10; omega) (by show l'.length ≤ 20; have := hpl.length_eq; omega)
end
end Fm
namespace Fm
open PySem L2
/-- laps over a set of states: S the moves between states below n; A what is there at first -/
structure Lap (n : Nat) (S : Nat → Nat → Prop) (A : Nat → Prop) (k : Nat) (l : List Nat) : Prop where
  lt : ∀ q ∈ l, q < n
  beg : ∀ q, A q → q ∈ l
  snd : ∀ q ∈ l, ∀ X : Nat → Prop, (∀ q, A q → X q) → (∀ p q, X p → S p q → X q) → X q
  more : (∀ p q, p ∈ l → S p q → q ∈ l) ∨ ∃ D : List Nat, D.Nodup ∧ (∀ x ∈ D, x ∈ l) ∧ k ≤ D.length
theorem Lap.next {n : Nat} {S : Nat → Nat → Prop} {A : Nat → Prop} {k : Nat} {l l' : List Nat} (L : Lap n S A k l) (hS : ∀ p q, S p q → q < n) (h : ∀ q, q ∈ l' ↔ (q ∈ l ∨ ∃ p, p ∈ l ∧ S p q)) : Lap n S A (k + 1) l' where
  lt := fun q hq => by
    rcases (h q).mp hq with z | ⟨p, _, z⟩
    · exact L.lt q z
    · exact hS p q z
  beg := fun q hq => (h q).mpr (.inl (L.beg q hq))
  snd := fun q hq X h1 h2 => by
    rcases (h q).mp hq with z | ⟨p, z1, z2⟩
    · exact L.snd q z X h1 h2
    · exact h2 p q (L.snd p z1 X h1 h2) z2
  more := by
    by_cases hc : ∀ p q, p ∈ l → S p q → q ∈ l
    · have e : ∀ q, q ∈ l' ↔ q ∈ l := fun q => ⟨fun z => ((h q).mp z).elim id fun ⟨p, z1, z2⟩ => hc p q z1 z2, fun z => (h q).mpr (.inl z)⟩
      exact .inl fun p q hp hs => (e q).mpr (hc p q ((e p).mp hp) hs)
    · rcases L.more with z | ⟨D, d1, d2, d3⟩
      · exact absurd z hc
      · have : ∃ p q, p ∈ l ∧ S p q ∧ q ∉ l := Classical.byContradiction fun z => hc fun p q hp hs => Classical.byContradiction fun hq => z ⟨p, q, hp, hs, hq⟩
        obtain ⟨p, q, hp, hs, hq⟩ := this
        refine .inr ⟨D ++ [q], ?_, fun x hx => ?_, by rw [List.length_append, List.length_singleton]; omega⟩
        · rw [List.nodup_append]
          exact ⟨d1, by simp, fun x hx y hy => by rw [List.mem_singleton.mp hy]; exact fun e => hq (e ▸ d2 x hx)⟩
        · rcases List.mem_append.mp hx with hx | hx
          · exact (h x).mpr (.inl (d2 x hx))
          · rw [List.mem_singleton.mp hx]; exact (h q).mpr (.inr ⟨p, hp, hs⟩)
theorem Lap.done {n : Nat} {S : Nat → Nat → Prop} {A : Nat → Prop} {l : List Nat} (L : Lap n S A n l) (hS : ∀ p q, S p q → q < n) : ∀ p q, p ∈ l → S p q → q ∈ l := by
  rcases L.more with z | ⟨D, d1, d2, d3⟩
  · exact z
  · intro p q _ hs
    have hq := hS p q hs
    apply d2
    refine Classical.byContradiction fun hn => ?_
    have := nodup_below n (D ++ [q]) (by
      rw [List.nodup_append]
      exact ⟨d1, by simp, fun x hx y hy => by rw [List.mem_singleton.mp hy]; exact fun e => hn (e ▸ hx)⟩) (fun x hx => by
      rcases List.mem_append.mp hx with hx | hx
      · exact L.lt x (d2 x hx)
      · rw [List.mem_singleton.mp hx]; exact hq)
    rw [List.length_append, List.length_singleton] at this
    omega
theorem rch_lap {m : Mach} (ok : MOk m) {l : List Nat} (L : Lap m.1 (fun p q => ∃ c, (p, c, q) ∈ m.2.2) (· = 0) m.1 l) (q : Nat) : q ∈ l ↔ Rch (stepRows m.1 m.2.2) [0] q := by
  constructor
  · intro h
    refine (L.snd q h (fun q => q < m.1 ∧ Rch (stepRows m.1 m.2.2) [0] q) (fun q e => ?_) fun p q hp ⟨c, hs⟩ => ?_).2
    · subst e; exact ⟨ok.pos, .beg (by simp)⟩
    · obtain ⟨row, h1, h2⟩ := (stepRows_ed hp.1).mpr hs
      exact ⟨(ok.st _ hs).2, .step hp.2 h1 h2⟩
  · intro h
    induction h with
    | beg h => rw [List.mem_singleton.mp h]; exact L.beg 0 rfl
    | @step n t c row _ h1 h2 ih =>
      have hn := L.lt n ih
      exact L.done (fun p q ⟨c, hs⟩ => (ok.st _ hs).2) n t ih ⟨c, (stepRows_ed hn).mp ⟨row, h1, h2⟩⟩
theorem bch_lap {m : Mach} (ok : MOk m) {l : List Nat} (L : Lap m.1 (fun p q => ∃ c, (q, c, p) ∈ m.2.2) (· ∈ m.2.1) m.1 l) (q : Nat) (hq : q < m.1) : q ∈ l ↔ Bch (stepRows m.1 m.2.2) m.2.1 q := by
  constructor
  · intro h
    refine (L.snd q h (fun q => q < m.1 ∧ Bch (stepRows m.1 m.2.2) m.2.1 q) (fun q e => ⟨ok.ends q e, .fin e⟩) fun p q hp ⟨c, hs⟩ => ?_).2
    have h1 := (ok.st _ hs).1
    exact ⟨h1, .step ((stepRows_ed h1).mpr hs) hp.2⟩
  · intro h
    induction h with
    | fin h => exact L.beg _ h
    | @step n t c hE _ ih =>
      have hs := (stepRows_ed hq).mp hE
      exact L.done (fun p q ⟨c, hs⟩ => (ok.st _ hs).1) t n (ih (ok.st _ hs).2) ⟨c, hs⟩
/-- a machine as small as the law makes it -/
structure MSm (m : Mach) : Prop where
  a : m.1 + m.2.2.length < 60
  b : m.2.1.length + m.2.2.length < 60
def spLive : Sp := fun vs H Q _ => ∃ (m : Mach) (v1 : V), vs = [v1] ∧ rMach H v1 m ∧ MOk m ∧ MSm m ∧ ∀ (v : V) (H' : Hp) (l : List Nat), Fe H H' → rL rN H' v l → (∀ q, q ∈ l ↔ Live m q) → l.length ≤ 60 → Q v H'
theorem lmap (l : List Nat) : (l.map fun n : Nat => (n : Int)).map V.int = l.map vN := by rw [List.map_map]; rfl
abbrev St3 := Nat × Nat × Nat
def fm (f g : St3 → Nat) (sts : List St3) (l : List Nat) : List Nat := (sts.filter fun s => decide (f s ∈ l)).map g
theorem fm_succ (f g : St3 → Nat) (sts : List St3) (l : List Nat) (i : Nat) (s : St3) (h : sts[i]? = some s) : fm f g (sts.take (i + 1)) l = fm f g (sts.take i) l ++ (if f s ∈ l then [g s] else []) := by
  unfold fm
  rw [List.take_add_one, h, List.filter_append, List.map_append]
  refine congrArg (fun z => List.map g (List.filter (fun s => decide (f s ∈ l)) (List.take i sts)) ++ z) ?_
  show List.map _ (List.filter _ [s]) = _
  rw [List.filter_cons]
  by_cases q : f s ∈ l
  · rw [if_pos q, if_pos (decide_eq_true q)]; rfl
  · rw [if_neg q, if_neg (fun z => q (of_decide_eq_true z))]; rfl
theorem fm_mem {f g : St3 → Nat} {sts : List St3} {l : List Nat} {p : Nat} : p ∈ fm f g sts l ↔ ∃ s, s ∈ sts ∧ f s ∈ l ∧ g s = p := by
  unfold fm
  rw [List.mem_map]
  constructor
  · rintro ⟨s, h1, rfl⟩
    obtain ⟨h2, h3⟩ := List.mem_filter.mp h1
    exact ⟨s, h2, of_decide_eq_true h3, rfl⟩
  · rintro ⟨s, h1, h2, h3⟩
    exact ⟨s, List.mem_filter.mpr ⟨h1, decide_eq_true h2⟩, h3⟩
theorem fm_len (f g : St3 → Nat) (sts : List St3) (l : List Nat) : (fm f g sts l).length ≤ sts.length := by
  unfold fm
  rw [List.length_map]
  exact List.length_filter_le _ _
section
variable {P : Program} {w : World} {K : PySem.W.Frag} {g : Str → Option Value} {base : Heap}
theorem asc_nat {l' : List Nat} (h : (l'.map fun n : Nat => (n : Int)).Pairwise (· < ·)) : l'.Nodup := by
  rw [List.pairwise_map] at h
  exact List.nodup_iff_pairwise_ne.mpr (h.imp fun z => by omega)
end
end Fm
namespace Fm
open PySem L2
/-- what is hoped, by whole operations -/
def HopeW (b : Book) (m : Mach) (t : List Nat) (c : Nat) : Prop := (∃ q, Live m q ∧ Wh b m t 0 t.length q c) ∨
  ∃ (pl q c' : Nat) (r : List Nat) (d : Nat), pl < t.length ∧ Wh b m t 0 pl q c' ∧ t.length - pl < r.length ∧ r.take (t.length - pl) = t.drop pl ∧ (∃ p, OpS b m r d q p ∧ Live m p) ∧ c = c' + d
def spHopeW : Sp := fun vs H Q _ => ∃ (b : Book) (m : Mach) (t : List Nat) (v1 v2 : V), vs = [v1, v2, .str ⟨t.toArray⟩] ∧ rBook H v1 b ∧ rMach H v2 m ∧ POk b m ∧ MSm m ∧ t.length ≤ 1000 ∧ ∀ H', Fe H H' → Q (oV (least (HopeW b m t))) H'
theorem cut_to (l : List Nat) (k : Nat) (h : k ≤ l.length) : cutS ⟨l.toArray⟩ none (some (k : Int)) = ⟨(l.take k).toArray⟩ := by
  unfold cutS
  rw [slen, HT.sIx_nat]
  show (⟨((l.drop 0).take (min k l.length - 0)).toArray⟩ : Str) = _
  rw [Nat.min_eq_left h]; rfl
theorem atI_last {xs : List V} {v : V} (h : xs[xs.length - 1]? = some v) : atI xs (-1) = some v := by
  have hl := (List.getElem?_eq_some_iff.mp h).1
  unfold atI
  have : ixN xs.length (-1) = some (xs.length - 1) := by
    unfold ixN
    rw [if_neg (by omega), if_pos (by omega)]
    congr 1
    omega
  rw [this]
  exact h
def fnd (last : CRow) (l : List Nat) : List Nat := l.filterMap fun q => (last[q]?).getD none
theorem fnd_mem {last : CRow} {l : List Nat} {c : Nat} : c ∈ fnd last l ↔ ∃ q, q ∈ l ∧ last[q]? = some (some c) := by
  unfold fnd
  rw [List.mem_filterMap]
  refine exists_congr fun q => and_congr_right fun _ => ?_
  cases last[q]? with
  | none => simp
  | some o => simp
theorem fnd_succ {last : CRow} {l : List Nat} {i q : Nat} {o : Option Nat} (h : l[i]? = some q) (ho : last[q]? = some o) : fnd last (l.take (i + 1)) = fnd last (l.take i) ++ o.toList := by
  unfold fnd
  rw [List.take_add_one, h, List.filterMap_append]
  refine congrArg (fun z => List.filterMap (fun q => (last[q]?).getD none) (List.take i l) ++ z) ?_
  show List.filterMap _ [q] = _
  rw [List.filterMap_cons, ho]
  cases o <;> rfl
/-- what an operation that reads beyond the end brings -/
def Far (rows : List CRow) (t lv : List Nat) (op : Op) (pl q c : Nat) : Prop := ∃ (row : CRow) (c' : Nat) (tr : List Nat) (p : Nat), rows[pl]? = some row ∧ row[q]? = some (some c') ∧ t.length - pl < op.1.length ∧ op.1.take (t.length - pl) = t.drop pl ∧ op.2.2.2[q]? = some tr ∧ p ∈ tr ∧ p ∈ lv ∧ c = c' + op.2.2.1
def FarI (rows : List CRow) (t lv : List Nat) (ops : List Op) (n i j k c : Nat) : Prop := ∃ (pl i2 q : Nat) (op : Op), pl < t.length ∧ q < n ∧ (pl < i ∨ (pl = i ∧ (i2 < j ∨ (i2 = j ∧ q < k)))) ∧ ops[i2]? = some op ∧ Far rows t lv op pl q c
structure FI (rows : List CRow) (t lv : List Nat) (ops : List Op) (last : CRow) (n i j k : Nat) (fs : List Nat) : Prop where
  mem : ∀ c, c ∈ fs ↔ (c ∈ fnd last lv ∨ FarI rows t lv ops n i j k c)
  len : fs.length ≤ 60 + i * (ops.length * n) + j * n + k
theorem FI.skip {rows : List CRow} {t lv : List Nat} {ops : List Op} {last : CRow} {n i j k i' j' k' : Nat} {fs : List Nat} (f : FI rows t lv ops last n i j k fs) (hl : 60 + i * (ops.length * n) + j * n + k ≤ 60 + i' * (ops.length * n) + j' * n + k')
    (h1 : ∀ pl i2 q, pl < t.length → q < n → i2 < ops.length → (pl < i ∨ (pl = i ∧ (i2 < j ∨ (i2 = j ∧ q < k)))) → (pl < i' ∨ (pl = i' ∧ (i2 < j' ∨ (i2 = j' ∧ q < k')))))
    (h2 : ∀ pl i2 q op c, pl < t.length → q < n → ops[i2]? = some op → (pl < i' ∨ (pl = i' ∧ (i2 < j' ∨ (i2 = j' ∧ q < k')))) → ¬ (pl < i ∨ (pl = i ∧ (i2 < j ∨ (i2 = j ∧ q < k)))) → ¬ Far rows t lv op pl q c) : FI rows t lv ops last n i' j' k' fs where
  len := Nat.le_trans f.len hl
  mem := fun c => by
    rw [f.mem c]
    refine or_congr Iff.rfl ⟨?_, ?_⟩
    · rintro ⟨pl, i2, q, op, a1, a2, a3, a4, a5⟩
      exact ⟨pl, i2, q, op, a1, a2, h1 pl i2 q a1 a2 (List.getElem?_eq_some_iff.mp a4).1 a3, a4, a5⟩
    · rintro ⟨pl, i2, q, op, a1, a2, a3, a4, a5⟩
      refine ⟨pl, i2, q, op, a1, a2, Classical.byContradiction fun z => h2 pl i2 q op c a1 a2 a4 a3 z a5, a4, a5⟩
theorem FI.add {rows : List CRow} {t lv : List Nat} {ops : List Op} {last : CRow} {n i j k : Nat} {fs : List Nat} (f : FI rows t lv ops last n i j k fs) (hi : i < t.length) (hk : k < n) {op : Op} (hop : ops[j]? = some op) {c : Nat} (h : ∀ c', Far rows t lv op i k c' ↔ c' = c) : FI rows t lv ops last n i j (k + 1) (fs ++ [c]) where
  len := by rw [List.length_append, List.length_singleton]; have := f.len; omega
  mem := fun c' => by
    rw [List.mem_append, List.mem_singleton, f.mem c']
    constructor
    · rintro ((z | ⟨pl, i2, q, op', a1, a2, a3, a4, a5⟩) | z)
      · exact .inl z
      · exact .inr ⟨pl, i2, q, op', a1, a2, by omega, a4, a5⟩
      · exact .inr ⟨i, j, k, op, hi, hk, by omega, hop, (h c').mpr z⟩
    · rintro (z | ⟨pl, i2, q, op', a1, a2, a3, a4, a5⟩)
      · exact .inl (.inl z)
      · by_cases e : pl = i ∧ i2 = j ∧ q = k
        · obtain ⟨rfl, rfl, rfl⟩ := e
          rw [hop] at a4; cases a4
          exact .inr ((h c').mp a5)
        · exact .inl (.inr ⟨pl, i2, q, op', a1, a2, by omega, a4, a5⟩)
section
variable {P : Program} {w : World} {K : PySem.W.Frag} {g : Str → Option Value} {base : Heap}
end
end Fm
/-! the plain law: sums over standings are sums over whole operations -/
namespace Fm
open PySem L2
theorem take_snoc {t u : List Nat} {x : Nat} (h : t.take (u ++ [x]).length = u ++ [x]) : t.take u.length = u ∧ t[u.length]? = some x := by
  rw [List.length_append, List.length_singleton, List.take_add_one] at h
  cases e : t[u.length]? with
  | none =>
    rw [e, Option.toList_none, List.append_nil] at h
    have := congrArg List.length h
    rw [List.length_append, List.length_singleton, List.length_take] at this
    omega
  | some y =>
    rw [e] at h
    have hl : u.length < t.length := (List.getElem?_eq_some_iff.mp e).1
    have := List.append_inj h (by rw [List.length_take]; omega)
    obtain ⟨h1, h2⟩ := this
    have h2 : [y] = [x] := h2
    injection h2 with h2 _
    exact ⟨h1, by rw [h2]⟩
theorem drop_take_of {t u : List Nat} {pl : Nat} (h : t.take u.length = u) (hp : pl ≤ u.length) : (t.drop pl).take (u.drop pl).length = u.drop pl := by
  conv => rhs; rw [← h]
  rw [List.drop_take, List.length_drop]
theorem drop_one {t : List Nat} {i x : Nat} (h : t[i]? = some x) : (t.drop i).take 1 = [x] := by
  obtain ⟨hl, e⟩ := List.getElem?_eq_some_iff.mp h
  rw [List.drop_eq_getElem_cons hl, e]; rfl
theorem rs_wh {b : Book} {m : Mach} (pok : POk b m) {u : List Nat} {s : Stg} {c : Nat} (h : Rs b m u s c) : ∀ t : List Nat, t.take u.length = u →
    (s.2 = [] → Wh b m t 0 u.length s.1 c) ∧ (s.2 ≠ [] → ∃ (pl q' c' : Nat) (r0 : List Nat) (d : Nat), pl < u.length ∧ Wh b m t 0 pl q' c' ∧ r0 = u.drop pl ++ s.2 ∧ OpS b m r0 d q' s.1 ∧ c = c' + d) := by
  induction h with
  | beg => exact fun t _ => ⟨fun _ => .beg, fun h => absurd rfl h⟩
  | @sil u s s' c d _ mv ih =>
    intro t ht
    obtain ⟨h1, h2, wr, h3, h4⟩ := mv
    exact ⟨fun _ => .sil ((ih t ht).1 h1) ⟨wr, List.mem_append_left _ h3, h4⟩, fun h => absurd h2 h⟩
  | @rea u s s' c d x _ mv ih =>
    intro t ht
    obtain ⟨ht1, ht2⟩ := take_snoc ht
    obtain ⟨i1, i2⟩ := ih t ht1
    have hl : (u ++ [x]).length = u.length + 1 := by rw [List.length_append, List.length_singleton]
    have one : (t.drop u.length).take 1 = [x] := drop_one ht2
    rcases mv with ⟨r, h1, rfl, rfl⟩ | ⟨h1, h2, h3, rfl⟩ | ⟨h1, rd, wr, h2, h3, h4⟩
    · obtain ⟨pl, q', c', r0, d', j1, j2, j3, j4, j5⟩ := i2 (by rw [h1]; exact fun z => nomatch z)
      have e0 : r0 = (u ++ [x]).drop pl ++ r := by
        rw [j3, h1, List.drop_append_of_le_length (by omega), List.append_assoc]; rfl
      constructor
      · intro hr
        have hr : r = [] := hr
        subst hr
        rw [List.append_nil] at e0
        have hm := drop_take_of ht (show pl ≤ (u ++ [x]).length by omega)
        rw [← e0] at hm
        have hrl : r0.length = (u ++ [x]).length - pl := by rw [e0, List.length_drop]
        have := Wh.rd j2 (fun z => by rw [z] at hrl; simp at hrl; omega) j4 hm
        rw [show pl + r0.length = (u ++ [x]).length by omega] at this
        rw [Nat.add_zero, j5]
        exact this
      · intro _
        exact ⟨pl, q', c', r0, d', by omega, j2, e0, j4, by omega⟩
    · refine ⟨fun _ => ?_, fun h => absurd h2 h⟩
      have ho : OpS b m [x] 0 s.1 s'.1 := ⟨[x], List.mem_append_right _ (List.mem_map.mpr ⟨x, pok.ms _ h3, rfl⟩), ⟨s'.1, h3, rfl⟩⟩
      have := Wh.rd (r := [x]) (i1 h1) (fun z => nomatch z) ho one
      rw [hl]
      exact this
    · constructor
      · intro hr
        rw [h3] at hr
        subst hr
        have := Wh.rd (r := [x]) (i1 h1) (fun z => nomatch z) ⟨wr, List.mem_append_left _ h2, h4⟩ one
        rw [hl]
        exact this
      · intro _
        exact ⟨u.length, s.1, c, x :: rd, d, by omega, i1 h1, by rw [h3, List.drop_left]; rfl, ⟨wr, List.mem_append_left _ h2, h4⟩, rfl⟩
theorem rs_rest {b : Book} {m : Mach} : ∀ (a : List Nat) {u r : List Nat} {p c : Nat}, Rs b m u (p, a ++ r) c → Rs b m (u ++ a) (p, r) c
  | [], u, r, p, c, h => by rw [List.append_nil]; exact h
  | x :: a, u, r, p, c, h => by
    have h1 : Rs b m (u ++ [x]) (p, a ++ r) (c + 0) := .rea h (.inl ⟨a ++ r, rfl, rfl, rfl⟩)
    have h2 := rs_rest a h1
    rw [List.append_assoc, Nat.add_zero] at h2
    exact h2
/-- an operation that reads something: a letter that stays, or an edit -/
theorem ops_cases {b : Book} {m : Mach} {r : List Nat} {d q p : Nat} (h : OpS b m r d q p) : (∃ x, r = [x] ∧ d = 0 ∧ Em m q x p) ∨ ∃ w, (r, w, d) ∈ b.2 ∧ Lead (Em m) w q p := by
  obtain ⟨w, h1, h2⟩ := h
  rcases List.mem_append.mp h1 with h1 | h1
  · exact .inr ⟨w, h1, h2⟩
  · obtain ⟨x, _, e⟩ := List.mem_map.mp h1
    injection e with e1 e
    injection e with e2 e3
    subst e1 e2 e3
    obtain ⟨r, h3, h4⟩ := h2
    have h4 : r = p := h4
    subst h4
    exact .inl ⟨x, rfl, rfl, h3⟩
theorem take_more {t r : List Nat} {pl : Nat} (h : (t.drop pl).take r.length = r) : t.take (pl + r.length) = t.take pl ++ r := by
  rw [List.take_add, h]
/-- the beginning of an operation's reading -/
theorem rs_begin {b : Book} {m : Mach} {u : List Nat} {q p c d : Nat} {a r : List Nat} (ha : a ≠ []) (h : Rs b m u (q, []) c) (o : OpS b m (a ++ r) d q p) : Rs b m (u ++ a) (p, r) (c + d) := by
  cases a with
  | nil => exact absurd rfl ha
  | cons x a =>
    rcases ops_cases o with ⟨y, e, rfl, h3⟩ | ⟨w, h1, h2⟩
    · have e : x :: (a ++ r) = [y] := e
      injection e with e1 e2
      subst e1
      obtain ⟨rfl, rfl⟩ := List.append_eq_nil_iff.mp e2
      exact .rea h (.inr (.inl ⟨rfl, rfl, h3, rfl⟩))
    · have h3 : Rs b m (u ++ [x]) (p, a ++ r) (c + d) := .rea h (.inr (.inr ⟨rfl, a ++ r, w, h1, rfl, h2⟩))
      have h4 := rs_rest a h3
      rw [List.append_assoc] at h4
      exact h4
theorem wh_rs {b : Book} {m : Mach} {t : List Nat} {pl q c : Nat} (h : Wh b m t 0 pl q c) : Rs b m (t.take pl) (q, []) c := by
  induction h with
  | beg => exact .beg
  | sil _ o ih =>
    rcases ops_cases o with ⟨y, e, _⟩ | ⟨w, h1, h2⟩
    · cases e
    · exact .sil ih ⟨rfl, rfl, w, h1, h2⟩
  | @rd pl q c d p r _ hr o ht ih =>
    rw [take_more ht]
    exact rs_begin (r := []) hr ih (by rw [List.append_nil]; exact o)
/-- what is hoped, by standings and by whole operations -/
theorem hope_same {b : Book} {m : Mach} (pok : POk b m) (t : List Nat) : least (HopeW b m t) = least (Hope b m t) := by
  refine least_congr fun c => ⟨?_, ?_⟩
  · rintro (⟨q, h1, h2⟩ | ⟨pl, q, c', r, d, h1, h2, h3, h4, ⟨p, h5, h6⟩, rfl⟩)
    · have := wh_rs h2
      rw [List.take_length] at this
      exact ⟨(q, []), h1, this⟩
    · have e : r = t.drop pl ++ r.drop (t.length - pl) := by
        conv => lhs; rw [← List.take_append_drop (t.length - pl) r, h4]
      have hne : t.drop pl ≠ [] := fun z => by
        have := congrArg List.length z
        rw [List.length_drop] at this
        simp at this
        omega
      have := rs_begin (r := r.drop (t.length - pl)) hne (wh_rs h2) (by rw [← e]; exact h5)
      rw [List.take_append_drop] at this
      exact ⟨(p, r.drop (t.length - pl)), h6, this⟩
  · rintro ⟨s, h1, h2⟩
    obtain ⟨i1, i2⟩ := rs_wh pok h2 t (List.take_length)
    by_cases hs : s.2 = []
    · exact .inl ⟨s.1, h1, i1 hs⟩
    · obtain ⟨pl, q', c', r0, d, j1, j2, j3, j4, j5⟩ := i2 hs
      have hl : r0.length = (t.length - pl) + s.2.length := by rw [j3, List.length_append, List.length_drop]
      have hsl : 0 < s.2.length := List.length_pos_iff.mpr hs
      refine .inr ⟨pl, q', c', r0, d, j1, j2, by omega, ?_, ⟨s.1, j4, h1⟩, j5⟩
      rw [j3, List.take_left' (by rw [List.length_drop])]
end Fm
/-! pieces, by whole operations -/
namespace Fm
open PySem L2
theorem wh_to {b : Book} {m : Mach} {t : List Nat} {bg pl q c : Nat} (h : Wh b m t bg pl q c) : Wh b m (t.drop bg) 0 (pl - bg) q c := by
  induction h with
  | beg => rw [Nat.sub_self]; exact .beg
  | sil _ o ih => exact .sil ih o
  | @rd pl q c d p r h0 hr o ht ih =>
    have := wh_ge h0
    rw [show pl + r.length - bg = (pl - bg) + r.length by omega]
    refine .rd ih hr o ?_
    rw [List.drop_drop, show bg + (pl - bg) = pl by omega]
    exact ht
theorem wh_from {b : Book} {m : Mach} {t : List Nat} {bg k q c : Nat} (h : Wh b m (t.drop bg) 0 k q c) : Wh b m t bg (bg + k) q c := by
  induction h with
  | beg => exact .beg
  | sil _ o ih => exact .sil ih o
  | @rd pl q c d p r h0 hr o ht ih =>
    rw [← Nat.add_assoc]
    refine .rd ih hr o ?_
    rw [List.drop_drop] at ht
    exact ht
theorem rs_wh2 {b : Book} {m : Mach} (pok : POk b m) {t : List Nat} {p k q c : Nat} (hk : k ≤ p) (hp : p ≤ t.length) : Rs b m ((t.take p).drop k) (q, []) c ↔ Wh b m t k p q c := by
  have e : (t.take p).drop k = (t.drop k).take (p - k) := List.drop_take
  have hl : ((t.drop k).take (p - k)).length = p - k := by rw [List.length_take, List.length_drop]; omega
  rw [e]
  constructor
  · intro h
    have h1 := (rs_wh pok h (t.drop k) (by rw [hl])).1 rfl
    rw [hl] at h1
    have h2 := wh_from h1
    rwa [show k + (p - k) = p by omega] at h2
  · intro h
    exact wh_rs (wh_to h)
/-- codes of what was seen: all begins before k, at k the ends before e -/
def PcW (b : Book) (m : Mach) (t : List Nat) (k e p x : Nat) : Prop := ∃ k' c q, (k' < k ∨ (k' = k ∧ p < e)) ∧ k' ≤ p ∧ q ∈ m.2.1 ∧ Wh b m t k' p q c ∧ x = cod t.length c k'
theorem pcw_all {b : Book} {m : Mach} (pok : POk b m) {t : List Nat} {p x : Nat} (hp : p ≤ t.length) {e : Nat} : PcW b m t (t.length + 1) e p x ↔ PcE b m t p x := by
  constructor
  · rintro ⟨k, c, q, h1, h2, h3, h4, h5⟩
    exact ⟨k, c, q, h2, h3, (rs_wh2 pok h2 hp).mpr h4, h5⟩
  · rintro ⟨k, c, q, h2, h3, h4, h5⟩
    exact ⟨k, c, q, .inl (by omega), h2, h3, (rs_wh2 pok h2 hp).mp h4, h5⟩
theorem putK_old {κ : Type} [DecidableEq κ] {kvs : List (κ × V)} {k : κ} {v v' : V} (h : valV kvs k = some v') : (putK kvs k v).map (·.1) = kvs.map (·.1) := by
  unfold putK
  rw [if_pos (by rw [valV_any, h]; rfl), List.map_map]
  refine List.map_congr_left fun kv _ => ?_
  show (if kv.1 = k then (kv.1, v) else kv).1 = kv.1
  split <;> rfl
def VlR (N : Nat) (H : Hp) (kvs : List (Key × V)) (p : Nat) : Option Nat → Prop
  | none => valV kvs (kN p) = none
  | some e => ∃ v, valV kvs (kN p) = some v ∧ r3 H v (dB N e, p, dC N e)
/-- a dict of pieces by their ends -/
structure BD (N : Nat) (H : Hp) (kvs : List (Key × V)) (A : Nat → Nat → Prop) : Prop where
  ks : ∃ ks : List Nat, kvs.map (·.1) = ks.map kN ∧ ks.Nodup ∧ ∀ p ∈ ks, p ≤ N
  vs : ∀ p, ∃ o, Least (A p) o ∧ VlR N H kvs p o
theorem VlR.fe {N : Nat} {M : List Addr} {H H' : Hp} {kvs : List (Key × V)} {p : Nat} {o : Option Nat} (h : VlR N H kvs p o) (f : Fx M H H') : VlR N H' kvs p o := by
  cases o with
  | none => exact h
  | some e =>
    obtain ⟨v, h1, h2⟩ := h
    exact ⟨v, h1, Mo.mo (r := r3) f h2⟩
theorem BD.fe {N : Nat} {M : List Addr} {H H' : Hp} {kvs : List (Key × V)} {A : Nat → Nat → Prop} (h : BD N H kvs A) (f : Fx M H H') : BD N H' kvs A :=
  ⟨h.ks, fun p => let ⟨o, a, b⟩ := h.vs p; ⟨o, a, b.fe f⟩⟩
theorem BD.congr {N : Nat} {H : Hp} {kvs : List (Key × V)} {A B : Nat → Nat → Prop} (h : BD N H kvs A) (e : ∀ p x, A p x ↔ B p x) : BD N H kvs B :=
  ⟨h.ks, fun p => let ⟨o, a, b⟩ := h.vs p; ⟨o, a.congr (e p), b⟩⟩
theorem BD.put {N : Nat} {H : Hp} {kvs : List (Key × V)} {A B : Nat → Nat → Prop} (h : BD N H kvs A) {p e : Nat} {v : V} (hp : p ≤ N) (hB : ∀ p' x, p' ≠ p → (A p' x ↔ B p' x)) (hl : Least (B p) (some e)) (hv : r3 H v (dB N e, p, dC N e)) : BD N H (putK kvs (kN p) v) B := by
  obtain ⟨ks, k1, k2, k3⟩ := h.ks
  refine ⟨?_, fun p' => ?_⟩
  · cases q : valV kvs (kN p) with
    | none =>
      refine ⟨ks ++ [p], by rw [putK_new _ q, List.map_append, List.map_append, k1]; rfl, ?_, fun p' hp' => ?_⟩
      · rw [List.nodup_append]
        refine ⟨k2, by simp, fun a ha b hb e => ?_⟩
        rw [List.mem_singleton.mp hb] at e
        subst e
        have := valV_not q
        rw [k1] at this
        exact this (List.mem_map.mpr ⟨a, ha, rfl⟩)
      · rcases List.mem_append.mp hp' with hp' | hp'
        · exact k3 p' hp'
        · rw [List.mem_singleton.mp hp']; exact hp
    | some v' => exact ⟨ks, by rw [putK_old q]; exact k1, k2, k3⟩
  · by_cases e1 : p' = p
    · subst e1
      exact ⟨some e, hl, v, by rw [valV_put, if_pos rfl], hv⟩
    · obtain ⟨o, a, b⟩ := h.vs p'
      have hk : ¬ kN p' = kN p := fun z => e1 (kN_inj _ _ z)
      refine ⟨o, a.congr (fun x => hB p' x e1), ?_⟩
      cases o with
      | none => show valV _ _ = none; rw [valV_put, if_neg hk]; exact b
      | some e => obtain ⟨v', b1, b2⟩ := b; exact ⟨v', by rw [valV_put, if_neg hk]; exact b1, b2⟩
/-- the ends that have pieces, ascending -/
theorem bd_sorted {N : Nat} {H : Hp} {kvs : List (Key × V)} {A : Nat → Nat → Prop} (h : BD N H kvs A) (hA : ∀ p x, A p x → p ≤ N) {ks ys : List Nat} (hk : kvs.map (·.1) = ks.map kN) (hn : ks.Nodup) (hp : ys.Perm ks) (hs : ys.Pairwise (· ≤ ·)) : ys = (List.range (N + 1)).filter fun p => (least (A p)).isSome := by
  refine List.Perm.eq_of_pairwise (le := fun a b => a ≤ b) (fun _ _ _ _ x y => Nat.le_antisymm x y) hs ((List.pairwise_le_range).filter _) ?_
  refine (List.perm_ext_iff_of_nodup (hp.nodup_iff.mpr hn) ((List.nodup_range).filter _)).mpr fun p => ?_
  rw [hp.mem_iff, List.mem_filter, List.mem_range]
  obtain ⟨o, h1, h2⟩ := h.vs p
  have hmem : p ∈ ks ↔ valV kvs (kN p) ≠ none := by
    constructor
    · intro hm hz
      have := valV_not hz
      rw [hk] at this
      exact this (List.mem_map.mpr ⟨p, hm, rfl⟩)
    · intro hz
      cases q : valV kvs (kN p) with
      | none => exact absurd q hz
      | some v =>
        have := valV_in q
        rw [hk] at this
        obtain ⟨p', hp', e⟩ := List.mem_map.mp this
        exact kN_inj _ _ e ▸ hp'
  rw [hmem, least_eq h1]
  cases o with
  | none => exact ⟨fun z => absurd h2 z, fun z => nomatch z.2⟩
  | some e =>
    obtain ⟨v, h3, _⟩ := h2
    exact ⟨fun _ => ⟨by have := hA p e h1.1; omega, rfl⟩, fun _ z => by rw [h3] at z; cases z⟩
end Fm
namespace Fm
open PySem L2
def spPieces : Sp := fun vs H Q _ => ∃ (b : Book) (m : Mach) (t : List Nat) (v1 v2 : V), vs = [v1, v2, .str ⟨t.toArray⟩] ∧ rBook H v1 b ∧ rMach H v2 m ∧ POk b m ∧ MSm m ∧ t.length ≤ 60 ∧
  ∀ (H' : Hp) (a : Addr) (xs : List V), Fe H H' → H a = none → H' a = some (.lst xs) → Al r3 H' xs (pcs b m t none (t.length + 1)) → Q (.ref a) H'
theorem wh_le {b : Book} {m : Mach} {t : List Nat} {bg pl q c : Nat} (h : Wh b m t bg pl q c) (hb : bg ≤ t.length) : pl ≤ t.length := by
  induction h with
  | beg => exact hb
  | sil _ _ ih => exact ih
  | rd _ _ _ ht ih =>
    have := congrArg List.length ht
    rw [List.length_take, List.length_drop] at this
    omega
theorem cod_lt {N c d k j : Nat} (h : c ≤ d) (hk : j < k) (hN : k ≤ N) : cod N c k < cod N d j := by
  unfold cod
  have := Nat.mul_le_mul_right (N + 1) h
  omega
theorem cod_le {N c d k j : Nat} (h : d < c) : cod N d j ≤ cod N c k := by
  unfold cod
  have := Nat.mul_le_mul_right (N + 1) (show d + 1 ≤ c from h)
  rw [Nat.add_mul] at this
  omega
theorem cod_mono {N c d k : Nat} (h : c ≤ d) : cod N c k ≤ cod N d k := by
  unfold cod
  have := Nat.mul_le_mul_right (N + 1) h
  omega
theorem nat_min {l : List Nat} (h : l ≠ []) : ∃ c ∈ l, ∀ y ∈ l, c ≤ y := by
  induction l with
  | nil => exact absurd rfl h
  | cons x l ih =>
    by_cases q : l = []
    · subst q
      exact ⟨x, List.mem_cons_self, fun y hy => by rw [List.mem_singleton.mp hy]; exact Nat.le_refl _⟩
    · obtain ⟨c, h1, h2⟩ := ih q
      by_cases z : x ≤ c
      · exact ⟨x, List.mem_cons_self, fun y hy => (List.mem_cons.mp hy).elim (fun e => by rw [e]; exact Nat.le_refl _) fun hy => Nat.le_trans z (h2 y hy)⟩
      · exact ⟨c, List.mem_cons_of_mem _ h1, fun y hy => (List.mem_cons.mp hy).elim (fun e => by rw [e]; omega) fun hy => h2 y hy⟩
theorem fm_filter {α β : Type} (f : α → Option β) (g : α → Bool) : ∀ l : List α, (∀ p ∈ l, g p = false → f p = none) → (l.filter g).filterMap f = l.filterMap f
  | [], _ => rfl
  | a :: l, h => by
    rw [List.filter_cons]
    cases q : g a with
    | true => rw [if_pos rfl, List.filterMap_cons, List.filterMap_cons, fm_filter f g l fun p hp => h p (List.mem_cons_of_mem _ hp)]
    | false =>
      rw [if_neg (by simp), fm_filter f g l fun p hp => h p (List.mem_cons_of_mem _ hp), List.filterMap_cons, h a List.mem_cons_self q]
theorem fnd_mem' {last : CRow} {l : List Nat} {c : Nat} : c ∈ fnd last l ↔ ∃ q, q ∈ l ∧ last[q]? = some (some c) := fnd_mem
section
variable {P : Program} {w : World} {K : PySem.W.Frag} {g : Str → Option Value} {base : Heap}
theorem ok_law_pieces (T : Txt K g) : FnOk P w K g base CX0 2 T.d_law_pieces.f T.d_law_pieces.fd P_law_pieces spPieces := by
  refine T.d_law_pieces.F.ok sc_law_pieces (fun vs H Q E h => ?_) (fun cdv A outer s H vs Q E hr h => ?_)
  · obtain ⟨_, _, _, _, _, rfl, _⟩ := h
    rfl
  · obtain ⟨b, m, t, v1, v2, rfl, hb, hm, pok, msm, ht, kk⟩ := h
    have hu := hu_of hr
    refine ⟨_, (pss_cons (ps_set (i := 3) sc_law_pieces.nd rfl (by first | exact Or.inl rfl | exact Or.inr rfl) (pe_call (ok_law_ops T) (hr.mono (by decide)) rfl T.d_law_ops.mg T.d_law_ops.kp T.d_law_ops.b .nil pass0 (pa_cons (pv 0) (pa_cons (pv 1) pa_nil))))
    (pss_cons (ps_set (i := 4) sc_law_pieces.nd rfl (by first | exact Or.inl rfl | exact Or.inr rfl) pe_dnewK)
    (pss_cons (ps_for PassesOwn.never rfl (pi_range1 rfl T.z_range (pa_cons (pe_op op_add (pe_callB kc_lenS (by rfl) T.z_len PySem.boot_len (pa_cons (pv 2) pa_nil)) pe_int) pa_nil)) (pg_name (i := 5) sc_law_pieces.nd rfl (by first | exact Or.inl rfl | exact Or.inr rfl))
      (pss_cons (ps_set (i := 6) sc_law_pieces.nd rfl (by first | exact Or.inl rfl | exact Or.inr rfl) (pe_call (ok_law_ahead T) (hr.mono (by decide)) rfl T.d_law_ahead.mg T.d_law_ahead.kp T.d_law_ahead.b .nil pass0 (pa_cons (pv 3) (pa_cons (pe_ix (kx_tup (K := K) rfl) (pv 1) pe_int (fun _ _ => rfl)) (pa_cons (pv 2) (pa_cons (pv 5) pa_nil))))))
      (pss_one (ps_for PassesOwn.never rfl (pi_range2 rfl T.z_range (pa_cons (pv 5) (pa_cons (pe_op op_add (pe_callB kc_lenS (by rfl) T.z_len PySem.boot_len (pa_cons (pv 2) pa_nil)) pe_int) pa_nil))) (pg_name (i := 7) sc_law_pieces.nd rfl (by first | exact Or.inl rfl | exact Or.inr rfl))
        (pss_cons (ps_setLc (i := 8) (own := [("q", 9)]) rfl sc_law_pieces.nd rfl rfl (sw_true rfl rfl rfl (by decide +kernel)) (ki_tup (K := K) rfl (pe_ix (kx_tup (K := K) rfl) (pv 1) pe_int (fun _ _ => rfl))) (blkOk_by (N := N_law_pieces) (sc := defScope s_law_pieces) (by decide +kernel)) (fun _ _ _ _ _ => by exact (pg_name (i := 9) sc_law_pieces.nd rfl (by first | exact Or.inl rfl | exact Or.inr rfl))) (fun _ _ _ _ _ => by exact pts_one (pt_cmpR op_notN (pe_ix (kx_list (K := K) rfl) (pe_ix (kx_list (K := K) rfl) (pv 6) (pv 7) (fun _ _ => rfl)) (pv 9) (fun _ _ => rfl)) pe_non (nomark _))) (fun _ _ _ _ _ => by exact (pe_ix (kx_list (K := K) rfl) (pe_ix (kx_list (K := K) rfl) (pv 6) (pv 7) (fun _ _ => rfl)) (pv 9) (fun _ _ => rfl))))
        (pss_one (ps_if (PW.pt (pw_and (pt_cmpR op_gt (pe_callB (kc_len (K := K) rfl) (by rfl) T.z_len PySem.boot_len (pa_cons (pv 8) pa_nil)) pe_int (nomark _)) (pw_and1 (PW.pt (pw_or (pt_cmp (pc_dnotin hu (pv 7) (pv 4))) (pw_or1 (pt_cmpR op_le (pe_callB (kc_min (K := K) rfl rfl) (by rfl) T.z_min (by decide +kernel) (pa_cons (pv 8) pa_nil)) (pe_ix (kx_tup (K := K) rfl) (pe_dget hu (pv 4) (pv 7) (fun _ _ => rfl)) pe_int (fun _ _ => rfl)) (nomark _))))))))
          (pss_one (ps_dput hu (pv 4) (pv 7) (pe_tup (pa_cons (pv 5) (pa_cons (pv 7) (pa_cons (pe_callB (kc_min (K := K) rfl rfl) (by rfl) T.z_min (by decide +kernel) (pa_cons (pv 8) pa_nil)) pa_nil)))) rfl))
          pss_nil)))))))
    (pss_one (ps_ret (pe_lc (own := [("end", 7)]) rfl sc_law_pieces.nd (ki_list (K := K) rfl (pe_callB (kc_sortedDI rfl) (by rfl) T.z_sorted (by decide +kernel) (pa_cons (pv 4) pa_nil))) (blkOk_by (N := N_law_pieces) (sc := defScope s_law_pieces) (by decide +kernel)) (fun _ _ _ _ _ => by exact (pg_name (i := 7) sc_law_pieces.nd rfl (by first | exact Or.inl rfl | exact Or.inr rfl))) (fun _ _ _ _ _ => by exact pts_nil) (fun _ _ _ _ _ => by exact (pe_dget hu (pv 4) (pv 7) (fun _ _ => rfl))))))))), ?_⟩
    have mok := pok.mo
    refine ⟨_, rfl, _, rfl, b, m, v1, v2, rfl, hb, hm, pok, by have := msm.a; omega, fun vo ops H1 e1 hops oo => ?_⟩
    obtain ⟨ma, vst, ven, vsp, rfl, hma, rfl, ⟨ea, es0, rfl, hea, hes0⟩, hsp⟩ := id hm
    have hen0 := hes0.nats
    subst hen0
    have short : ∀ op ∈ ops, op.1.length ≤ 1000 := fun op hop => by
      obtain ⟨i, hi⟩ := List.mem_iff_getElem?.mp hop
      have h1 := List.mem_of_getElem? (oo.ok i op hi).1
      unfold alle at h1
      rcases List.mem_append.mp h1 with h1 | h1
      · have h2 := pok.bk.len _ h1
        have h3 : op.1.length ≤ 3 := h2
        omega
      · obtain ⟨x, _, e⟩ := List.mem_map.mp h1
        have : op.1 = [x] := (congrArg (fun z : List Nat × List Nat × Nat => z.1) e).symm
        rw [this]; simp
    intro B hB
    have fB : Fe H1 (upd H1 B (.dK [])) := Fe.new hB
    refine ⟨_, rfl, _, rfl, by rw [slen, sizeLine_eq]; omega, _, _, rfl, rfl, _, rfl, by rw [slen]; omega, by rw [slen]; omega, ?_⟩
    have hcn : (((⟨t.toArray⟩ : Str).length : Int) + 1).toNat = t.length + 1 := by rw [slen]; omega
    rw [hcn]
    refine for_range (lo := 0) (n := t.length + 1) (fun k σ' H' => ∃ (kvs : List (Key × V)) (o5 o6 o7 o8 : Option V), σ' = [some v1, some (.ref ma), some (.str ⟨t.toArray⟩), some vo, some (.ref B), o5, o6, o7, o8, none] ∧ Fe H1 H' ∧ H' B = some (.dK kvs) ∧ BD t.length H' kvs (PcW b m t k 0))
      ⟨[], _, _, _, _, rfl, fB, upd_same, ⟨[], rfl, List.nodup_nil, fun _ z => nomatch z⟩, fun p => ⟨none, fun x ⟨k', c, q, h1, _⟩ => by omega, rfl⟩⟩ ?_ ?_
    · rintro k σ' H' hk ⟨kvs, o5, o6, o7, o8, rfl, e, hB', bd⟩
      rw [show ((0 : Int) + (k : Int)) = (k : Int) from Int.zero_add _]
      have hma' := e.k (e1.k hma)
      refine ⟨_, rfl, _, rfl, ma, _, _, _, rfl, rfl, SqT.of hma', rfl, _, rfl, _, rfl, b, m, ops, t, k, vo, rfl, Me.go hops e, oo, short, mok, pok.few, by omega, by omega, fun D H2 qs rows e2 M2 hl2 hrows => ?_⟩
      have e12 := e.trans e2
      have hB2 := e2.k hB'
      have bd2 := bd.fe e2
      clear e bd hB' hma'
      refine ⟨_, rfl, _, rfl, _, rfl, by rw [slen, sizeLine_eq]; omega, _, _, rfl, rfl, (k : Int), ((t.length : Int) + 1), by rw [slen], ⟨by omega, by omega, by omega, by omega⟩, ?_⟩
      have hc2 : ((t.length : Int) + 1 - (k : Int)).toNat = t.length + 1 - k := by omega
      rw [hc2]
      refine for_range (lo := (k : Int)) (n := t.length + 1 - k) (fun i σ' H' => ∃ (kvs : List (Key × V)) (o7 o8 : Option V), σ' = [some v1, some (.ref ma), some (.str ⟨t.toArray⟩), some vo, some (.ref B), some (.int (k : Int)), some (.ref D), o7, o8, none] ∧ Fe H1 H' ∧ Fx [B] H2 H' ∧ H' B = some (.dK kvs) ∧ BD t.length H' kvs (PcW b m t k (k + i)))
        ⟨kvs, _, _, rfl, e12, Fx.refl _ _, hB2, bd2.congr fun p x => ?_⟩ ?_ ?_
      · constructor
        · rintro ⟨k', c, q, h1, h2, h3⟩
          exact ⟨k', c, q, .inl (by omega), h2, h3⟩
        · rintro ⟨k', c, q, h1, h2, h3⟩
          exact ⟨k', c, q, .inl (by omega), h2, h3⟩
      · rintro i σ' H3 hi ⟨kvs, o7, o8, rfl, e, f3, hB3, bd⟩
        have epl : ((k : Int) + (i : Int)) = ((k + i : Nat) : Int) := by omega
        rw [epl]
        have hkp : k ≤ k + i := by omega
        have hpl : k + i ≤ t.length := by omega
        generalize hp : k + i = p at hkp hpl bd ⊢
        obtain ⟨row, hrow⟩ : ∃ row, rows[p]? = some row := ⟨_, List.getElem?_eq_getElem (by omega)⟩
        have hA := hrows p row hrow
        have nDB : D ≠ B := fun z => by
          have := M2.at_
          rw [z, hB2] at this; cases this
        have M3 := M2.keep f3 (fun z => nDB (List.mem_singleton.mp z)) (fun q hq z => by
          rw [List.mem_singleton.mp z] at hq
          obtain ⟨j, hj⟩ := List.mem_iff_getElem?.mp hq
          have hjl : j < rows.length := by rw [← M2.len]; exact (List.getElem?_eq_some_iff.mp hj).1
          obtain ⟨xs, h1, _⟩ := M2.row j B _ hj (List.getElem?_eq_getElem hjl)
          rw [hB2] at h1; cases h1)
        obtain ⟨qk, xs, hqk, hqm, hqx, hqa⟩ := M3.get hrow
        have hxo := hqa.opts
        subst hxo
        have hma3 := e.k (e1.k hma)
        have hea3 := e.k (e1.k hea)
        -- costs
        refine ⟨_, rfl, ma, _, _, _, rfl, rfl, SqT.of hma3, rfl, ea, rfl, ⟨_, SqT.of hea3⟩, fun F hF => lc_tup (xs := m.2.1.map vN) (fun j H' => Cmp rN H3 F (fnd row (m.2.1.take j)) H') (Cmp.start hF) (fun j H' hj c => SqT.of (c.fe.k hea3)) (fun j x H' hx c => ?_) (fun H4 c => ?_)⟩
        · obtain ⟨q, hq, hqv⟩ := (Al.ofNats (H := H') m.2.1).get hx
          have hqv : x = vN q := hqv
          subst hqv
          have hqn : q < m.1 := mok.ends q (List.mem_of_getElem? hq)
          obtain ⟨oo2, hoo⟩ : ∃ oo, row[q]? = some oo := ⟨row[q]'(by rw [hA.len]; exact hqn), List.getElem?_eq_getElem (by rw [hA.len]; exact hqn)⟩
          have hD4 := c.fe.k M3.at_
          have hq4 := c.fe.k hqx
          have hs := fnd_succ hq hoo
          have hlen : (fnd row (m.2.1.take j)).length < 1000000 := by
            have h1 := List.length_filterMap_le (fun q => (row[q]?).getD none) (m.2.1.take j)
            have h2 := (List.getElem?_eq_some_iff.mp hq).1
            have h3 := List.length_take_le j m.2.1
            have := msm.b
            unfold fnd
            omega
          rw [hs]
          refine ⟨rfl, _, rfl, _, rfl, D, _, _, .ref qk, rfl, rfl, SqL.of hD4, atI_nat (by rw [List.getElem?_map, hqk]; rfl), _, rfl, qk, _, _, _, rfl, rfl, SqL.of hq4, atI_nat (at_oV hoo), ?_⟩
          cases oo2 with
          | none => exact ⟨rfl, _, rfl, iteF (by show Cmp rN H3 F (_ ++ []) H'; rw [List.append_nil]; exact c)⟩
          | some d =>
            refine ⟨rfl, _, rfl, iteT ⟨_, rfl, _, rfl, D, _, _, .ref qk, rfl, rfl, SqL.of hD4, atI_nat (by rw [List.getElem?_map, hqk]; rfl), _, rfl, qk, _, _, _, rfl, rfl, SqL.of hq4, atI_nat (at_oV hoo), ?_⟩⟩
            exact c.add hlen (Fx.refl _ _) (show rN _ (vN d) d from rfl)
        · rw [List.length_map, List.take_length] at c
          obtain ⟨_, cs0, eF, hF4, hcl⟩ := c.rl
          cases eF
          have hcn2 := hcl.nats
          subst hcn2
          have e4 := e.trans c.fe
          have f4 := f3.trans c.fe.to
          have hB4 := c.fe.k hB3
          have bd4 := bd.fe c.fe
          have hcm : ∀ c, c ∈ fnd row m.2.1 ↔ ∃ q, q ∈ m.2.1 ∧ row[q]? = some (some c) := fun c => fnd_mem
          generalize fnd row m.2.1 = cs at hF4 hcm hcl
          -- the new codes at p
          have hnew : ∀ p' x, PcW b m t k (k + (i + 1)) p' x ↔ (PcW b m t k p p' x ∨ (p' = p ∧ ∃ c q, q ∈ m.2.1 ∧ Wh b m t k p q c ∧ x = cod t.length c k)) := by
            intro p' x
            rw [show k + (i + 1) = p + 1 by omega]
            constructor
            · rintro ⟨k', c, q, h1, h2, h3, h4, h5⟩
              by_cases z : k' = k ∧ p' = p
              · obtain ⟨rfl, rfl⟩ := z
                exact .inr ⟨rfl, c, q, h3, h4, h5⟩
              · exact .inl ⟨k', c, q, by omega, h2, h3, h4, h5⟩
            · rintro (⟨k', c, q, h1, h2, h3, h4, h5⟩ | ⟨rfl, c, q, h3, h4, h5⟩)
              · exact ⟨k', c, q, by omega, h2, h3, h4, h5⟩
              · exact ⟨k, c, q, by omega, hkp, h3, h4, h5⟩
          refine ⟨_, rfl, F, _, rfl, .inl (SqL.of hF4), _, _, rfl, rfl, _, rfl, ?_⟩
          have hBk : H4 B = some (.dK kvs) := hB4
          have hksz : kvs.length + 1 ≤ sizeLine := by
            obtain ⟨ks, k1, k2, k3⟩ := bd4.ks
            have h1 : ks.length ≤ t.length + 1 := nodup_below (t.length + 1) ks k2 fun x hx => by have := k3 x hx; omega
            have h2 := congrArg List.length k1
            rw [List.length_map, List.length_map] at h2
            rw [sizeLine_eq]; omega
          by_cases hce : cs = []
          · subst hce
            refine iteF (iteF ⟨kvs, _, _, rfl, e4, f4, hBk, bd4.congr fun p' x => ?_⟩)
            rw [hnew p' x]
            refine ⟨.inl, fun z => z.elim id ?_⟩
            rintro ⟨rfl, c, q, h1, h2, h3⟩
            obtain ⟨c', h4, _⟩ := hA.low q c h2
            exact nomatch (hcm c').mpr ⟨q, h1, h4⟩
          · obtain ⟨c0, hc0, hcl0⟩ := nat_min hce
            have hpos : 0 < cs.length := List.length_pos_iff.mpr hce
            have hmn : ∀ mn : Int, mn ∈ (cs.map fun n : Nat => (n : Int)) → (∀ y ∈ (cs.map fun n : Nat => (n : Int)), mn ≤ y) → mn = (c0 : Int) := by
              intro mn h1 h2
              obtain ⟨d, hd, rfl⟩ := List.mem_map.mp h1
              have h3 := h2 _ (List.mem_map.mpr ⟨c0, hc0, rfl⟩)
              have h4 := hcl0 d hd
              omega
            have hnl : Least (fun x => ∃ c q, q ∈ m.2.1 ∧ Wh b m t k p q c ∧ x = cod t.length c k) (some (cod t.length c0 k)) := by
              obtain ⟨q, h1, h2⟩ := (hcm c0).mp hc0
              refine ⟨⟨c0, q, h1, hA.snd q c0 h2, rfl⟩, ?_⟩
              rintro x ⟨c, q, h1, h2, rfl⟩
              obtain ⟨c', h4, h5⟩ := hA.low q c h2
              exact cod_mono (Nat.le_trans (hcl0 c' ((hcm c').mpr ⟨q, h1, h4⟩)) h5)
            have hput : Least (PcW b m t k (k + (i + 1)) p) (some (cod t.length c0 k)) → ∀ (U : Addr), H4 U = none → ∃ kvs' : List (Key × V), DPut (upd H4 U (.tup [.int (k : Int), .int (p : Int), .int (c0 : Int)])) B (vN p) (.ref U) (upd (upd H4 U (.tup [.int (k : Int), .int (p : Int), .int (c0 : Int)])) B (.dK kvs')) ∧
                Fe H1 (upd (upd H4 U (.tup [.int (k : Int), .int (p : Int), .int (c0 : Int)])) B (.dK kvs')) ∧ Fx [B] H2 (upd (upd H4 U (.tup [.int (k : Int), .int (p : Int), .int (c0 : Int)])) B (.dK kvs')) ∧
                BD t.length (upd (upd H4 U (.tup [.int (k : Int), .int (p : Int), .int (c0 : Int)])) B (.dK kvs')) kvs' (PcW b m t k (k + (i + 1))) := by
              intro hL U hU
              have fU := Fe.new (o := .tup [.int (k : Int), .int (p : Int), .int (c0 : Int)]) hU
              have hBU := fU.k hBk
              have fBB : Fx [B] (upd H4 U (.tup [.int (k : Int), .int (p : Int), .int (c0 : Int)])) (upd (upd H4 U (.tup [.int (k : Int), .int (p : Int), .int (c0 : Int)])) B (.dK (putK kvs (kN p) (.ref U)))) := Fx.put hBU (List.mem_singleton.mpr rfl) (fun _ z => nomatch z)
              refine ⟨putK kvs (kN p) (.ref U), DPut.k (k := kN p) hBU hksz, (e4.trans fU).mut hB, (f4.trans fU.to).trans fBB, ?_⟩
              refine BD.fe (BD.put (bd4.fe fU) hpl (fun p' x hne => ?_) hL ?_) fBB
              · rw [hnew p' x]
                exact ⟨.inl, fun z => z.elim id fun z => absurd z.1 hne⟩
              · rw [dB_cod (by omega), dC_cod (by omega)]
                exact ⟨U, _, _, _, rfl, upd_same, rfl, rfl, rfl⟩
            rw [decide_eq_true (show (((cs.map vN).length : Nat) : Int) > 0 by rw [List.length_map]; omega)]
            refine iteT ?_
            obtain ⟨o, ho, hov⟩ := bd4.vs p
            cases o with
            | none =>
              have hov : valV kvs (kN p) = none := hov
              have hL : Least (PcW b m t k (k + (i + 1)) p) (some (cod t.length c0 k)) := by
                refine ⟨(hnew p _).mpr (.inr ⟨rfl, hnl.1⟩), fun x hx => ?_⟩
                rcases (hnew p x).mp hx with z | ⟨_, z⟩
                · exact absurd z (ho x)
                · exact hnl.2 x z
              refine ⟨_, rfl, _, rfl, B, none, rfl, by rw [← hov]; exact DGet.k (k := kN p) hBk, _, rfl, ?_⟩
              refine iteT (iteT ?_)
              refine ⟨_, rfl, _, rfl, _, rfl, F, (cs.map fun n : Nat => (n : Int)), rfl, by rw [lmap]; exact SqL.of hF4, by rw [List.length_map]; exact hpos, fun mn a1 a2 => ?_⟩
              have emn := hmn mn a1 a2
              subst emn
              refine ⟨by show 3 ≤ sizeLine; decide, fun U hU => ?_⟩
              obtain ⟨kvs', h1, h2, h3, h4⟩ := hput hL U hU
              exact ⟨_, rfl, _, rfl, B, _, rfl, h1, kvs', _, _, rfl, h2, h3, upd_same, h4⟩
            | some e0 =>
              obtain ⟨v0, hv0, hv3⟩ := hov
              obtain ⟨u0, w1, w2, w3, rfl, hu0, rfl, rfl, rfl⟩ := id hv3
              refine ⟨_, rfl, _, rfl, B, some (.ref u0), rfl, by rw [← hv0]; exact DGet.k (k := kN p) hBk, _, rfl, ?_⟩
              refine iteF ?_
              refine ⟨_, rfl, F, (cs.map fun n : Nat => (n : Int)), rfl, by rw [lmap]; exact SqL.of hF4, by rw [List.length_map]; exact hpos, fun mn a1 a2 => ?_⟩
              have emn := hmn mn a1 a2
              subst emn
              refine ⟨_, rfl, _, rfl, B, .ref u0, rfl, by rw [← hv0]; exact DGet.k (k := kN p) hBk, u0, _, _, _, rfl, rfl, SqT.of hu0, rfl, _, _, rfl, rfl, _, rfl, ?_⟩
              have hlt : dB t.length e0 < k := by
                obtain ⟨k', c', q', h1, h2, h3, h4, h5⟩ := ho.1
                subst h5
                rw [dB_cod (by omega)]
                omega
              have hcd := cod_d t.length e0
              by_cases hle : c0 ≤ dC t.length e0
              · rw [decide_eq_true (show (c0 : Int) ≤ ((dC t.length e0 : Nat) : Int) by omega)]
                have hL : Least (PcW b m t k (k + (i + 1)) p) (some (cod t.length c0 k)) := by
                  refine ⟨(hnew p _).mpr (.inr ⟨rfl, hnl.1⟩), fun x hx => ?_⟩
                  rcases (hnew p x).mp hx with z | ⟨_, z⟩
                  · have h1 := ho.2 x z
                    have h2 := cod_lt (N := t.length) hle hlt (by omega)
                    rw [hcd] at h2
                    omega
                  · exact hnl.2 x z
                refine iteT ?_
                refine ⟨_, rfl, _, rfl, _, rfl, F, (cs.map fun n : Nat => (n : Int)), rfl, by rw [lmap]; exact SqL.of hF4, by rw [List.length_map]; exact hpos, fun mn a1 a2 => ?_⟩
                have emn := hmn mn a1 a2
                subst emn
                refine ⟨by show 3 ≤ sizeLine; decide, fun U hU => ?_⟩
                obtain ⟨kvs', h1, h2, h3, h4⟩ := hput hL U hU
                exact ⟨_, rfl, _, rfl, B, _, rfl, h1, kvs', _, _, rfl, h2, h3, upd_same, h4⟩
              · rw [decide_eq_false (show ¬ (c0 : Int) ≤ ((dC t.length e0 : Nat) : Int) by omega)]
                refine iteF ⟨kvs, _, _, rfl, e4, f4, hBk, bd4.ks, fun p' => ?_⟩
                by_cases hpp : p' = p
                · subst hpp
                  refine ⟨some e0, ⟨(hnew p' _).mpr (.inl ho.1), fun x hx => ?_⟩, _, hv0, hv3⟩
                  rcases (hnew p' x).mp hx with z | ⟨_, z⟩
                  · exact ho.2 x z
                  · have h1 := hnl.2 x z
                    have h2 := cod_le (N := t.length) (k := k) (j := dB t.length e0) (show dC t.length e0 < c0 by omega)
                    rw [hcd] at h2
                    omega
                · obtain ⟨o2, h1, h2⟩ := bd4.vs p'
                  refine ⟨o2, h1.congr fun x => ?_, h2⟩
                  rw [hnew p' x]
                  exact ⟨.inl, fun z => z.elim id fun z => absurd z.1 hpp⟩
      · rintro σ' H' ⟨kvs, o7, o8, rfl, e, f3, hB3, bd⟩
        refine ⟨kvs, _, _, _, _, rfl, e, hB3, bd.congr fun p x => ?_⟩
        constructor
        · rintro ⟨k', c, q, h1, h2, h3⟩
          exact ⟨k', c, q, .inl (by omega), h2, h3⟩
        · rintro ⟨k', c, q, h1, h2, h3, h4, h5⟩
          have := wh_le h4 (by omega)
          exact ⟨k', c, q, by omega, h2, h3, h4, h5⟩
    · rintro σ' H' ⟨kvs, o5, o6, o7, o8, rfl, e, hB', bd⟩
      obtain ⟨ks, k1, k2, k3⟩ := bd.ks
      have hkl : ks.length ≤ t.length + 1 := nodup_below (t.length + 1) ks k2 fun x hx => by have := k3 x hx; omega
      refine ⟨_, rfl, B, kvs, ks.map (fun n : Nat => (n : Int)), rfl, .inl hB', by rw [k1, List.map_map]; rfl, by rw [List.length_map]; omega, fun ys p0 hpm hpw hp0 => ?_⟩
      obtain ⟨l, rfl, hpl⟩ := perm_nats hpm
      rw [List.pairwise_map] at hpw
      have hl := bd_sorted bd (fun p x ⟨k', c, q, h1, h2, h3, h4, h5⟩ => wh_le h4 (by omega)) k1 k2 hpl (hpw.imp fun h => by omega)
      have hll : l.length ≤ t.length + 1 := by rw [hpl.length_eq]; exact hkl
      have f5 := Fe.new (o := .lst ((l.map fun n : Nat => (n : Int)).map V.int)) hp0
      have hsame : ∀ p ∈ l, ∃ v a, valV kvs (kN p) = some v ∧ r3 H' v a ∧ pc1 b m t none p = some a := by
        intro p hp
        rw [hl] at hp
        obtain ⟨h1, h2⟩ := List.mem_filter.mp hp
        obtain ⟨o, h3, h4⟩ := bd.vs p
        rw [least_eq h3] at h2
        cases o with
        | none => cases h2
        | some e0 =>
          obtain ⟨v, h5, h6⟩ := h4
          refine ⟨v, _, h5, h6, ?_⟩
          have hpN : p ≤ t.length := by have := List.mem_range.mp h1; omega
          have : least (PcE b m t p) = some e0 := least_eq (h3.congr fun x => pcw_all pok hpN)
          unfold pc1
          rw [this]
          rfl
      refine ⟨p0, rfl, ⟨_, SqL.of upd_same⟩, fun D hD => lc_list (xs := (l.map fun n : Nat => (n : Int)).map V.int) (fun i H6 => Cmp r3 _ D ((l.take i).filterMap (pc1 b m t none)) H6) (Cmp.start hD) (fun i H6 hi c => SqL.of (c.fe.k upd_same)) (fun i x H6 hx c => ?_) (fun H6 c => ?_)⟩
      · rw [List.map_map] at hx
        obtain ⟨p, hp, hpx⟩ := (Al.ofNats (H := H6) l).get hx
        have hpx : x = vN p := hpx
        subst hpx
        obtain ⟨v, a, h1, h2, h3⟩ := hsame p (List.mem_of_getElem? hp)
        have htk : (l.take (i + 1)).filterMap (pc1 b m t none) = (l.take i).filterMap (pc1 b m t none) ++ [a] := by
          rw [List.take_add_one, hp, List.filterMap_append]
          refine congrArg (fun z => List.filterMap (pc1 b m t none) (l.take i) ++ z) ?_
          show List.filterMap _ [p] = _
          rw [List.filterMap_cons, h3]
          rfl
        rw [htk]
        have hlen : ((l.take i).filterMap (pc1 b m t none)).length < 1000000 := by
          have h4 := List.length_filterMap_le (pc1 b m t none) (l.take i)
          have h5 := List.length_take_le' i l
          omega
        refine ⟨rfl, iteT (B := Cmp r3 (upd H' p0 (.lst ((l.map fun n : Nat => (n : Int)).map V.int))) D ((l.take i).filterMap (pc1 b m t none) ++ [a]) H6) ⟨_, rfl, _, rfl, B, v, rfl, by rw [← h1]; exact DGet.k (k := kN p) (c.fe.k (f5.k hB')), ?_⟩⟩
        exact c.add hlen (Fx.refl _ _) (Me.go h2 (f5.trans c.fe))
      · rw [List.length_map, List.length_map, List.take_length] at c
        have hfin : l.filterMap (pc1 b m t none) = pcs b m t none (t.length + 1) := by
          rw [hl]
          unfold pcs
          refine fm_filter _ _ _ fun p hp hz => ?_
          have hpN : p ≤ t.length := by have := List.mem_range.mp hp; omega
          have : least (PcE b m t p) = least (PcW b m t (t.length + 1) 0 p) := least_congr fun x => (pcw_all pok hpN).symm
          unfold pc1
          rw [this]
          cases q : least (PcW b m t (t.length + 1) 0 p) with
          | none => rfl
          | some e => rw [q] at hz; cases hz
        rw [hfin] at c
        obtain ⟨acc, hD6, hacc⟩ := c.ex
        exact kk H6 D acc (((e1.trans e).trans f5).trans c.fe) (((e1.trans e).trans f5).free c.new) hD6 hacc
end
end Fm
namespace Fm
open PySem L2
abbrev BKV := List (List Key × V)
def eK (r w : List Nat) : List Key := [kS r, kS w]
/-- the edits so far, over the letters ls -/
def DB (ls : List Nat) (kvs : BKV) : Prop := ∀ kv ∈ kvs, ∃ (r w : List Nat) (c : Nat), kv = (eK r w, vN c) ∧ r.length ≤ 3 ∧ w.length ≤ 3 ∧ ∀ x ∈ r, x ∈ ls
theorem putK_mem {κ : Type} [DecidableEq κ] {kvs : List (κ × V)} {k : κ} {v : V} {kv : κ × V} (h : kv ∈ putK kvs k v) : kv = (k, v) ∨ kv ∈ kvs := by
  unfold putK at h
  split at h
  · obtain ⟨x, hx, e⟩ := List.mem_map.mp h
    split at e
    · rename_i q
      subst e
      exact .inl (Prod.ext q rfl)
    · subst e; exact .inr hx
  · rcases List.mem_append.mp h with h | h
    · exact .inr h
    · exact .inl (List.mem_singleton.mp h)
theorem DB.put {ls : List Nat} {kvs : BKV} (d : DB ls kvs) {r w : List Nat} (c : Nat) (h1 : r.length ≤ 3) (h2 : w.length ≤ 3) (h3 : ∀ x ∈ r, x ∈ ls) : DB ls (putK kvs (eK r w) (vN c)) := fun kv h => by
  rcases putK_mem h with rfl | h
  · exact ⟨r, w, c, rfl, h1, h2, h3⟩
  · exact d kv h
theorem valV_mem {κ : Type} [DecidableEq κ] : ∀ {kvs : List (κ × V)} {k : κ} {v : V}, (k, v) ∈ kvs → ∃ v', valV kvs k = some v' ∧ (k, v') ∈ kvs
  | p :: kvs, k, v, h => by
    by_cases e : p.1 = k
    · exact ⟨p.2, valV_pos e, by rw [← e]; exact List.mem_cons_self⟩
    · rcases List.mem_cons.mp h with h | h
      · exact absurd (by rw [← h]) e
      · obtain ⟨v', h1, h2⟩ := valV_mem h
        exact ⟨v', by rw [valV_neg e]; exact h1, List.mem_cons_of_mem _ h2⟩
/-- the dict at D while the book is made -/
structure BS (p g : Addr) (H0 H : Hp) (D : Addr) (ls : List Nat) (k : Nat) : Prop where
  fx : Fx [p, g] H0 H
  pl : Pl H p g
  nD : H0 D = none
  nD2 : D ∉ [p, g]
  kv : ∃ kvs, H D = some (.dT kvs) ∧ DB ls kvs ∧ kvs.length ≤ k
theorem BS.f {p g : Addr} {H0 H H' : Hp} {D : Addr} {ls : List Nat} {k : Nat} (b : BS p g H0 H D ls k) (f : Fx [p, g] H H') (q : Pl H' p g) : BS p g H0 H' D ls k := by
  obtain ⟨kvs, h1, h2⟩ := b.kv
  exact ⟨b.fx.trans f, q, b.nD, b.nD2, kvs, f.keep _ _ b.nD2 h1, h2⟩
theorem BS.fe {p g : Addr} {H0 H H' : Hp} {D : Addr} {ls : List Nat} {k : Nat} (b : BS p g H0 H D ls k) (f : Fe H H') : BS p g H0 H' D ls k := b.f f.to (b.pl.keep f)
theorem BS.wk {p g : Addr} {H0 H : Hp} {D : Addr} {ls : List Nat} {k k' : Nat} (b : BS p g H0 H D ls k) (h : k ≤ k') : BS p g H0 H D ls k' := by
  obtain ⟨kvs, h1, h2, h3⟩ := b.kv
  exact ⟨b.fx, b.pl, b.nD, b.nD2, kvs, h1, h2, Nat.le_trans h3 h⟩
theorem BS.put {p g : Addr} {H0 H : Hp} {D U : Addr} {ls : List Nat} {k : Nat} (b : BS p g H0 H D ls k) (hk : k < 1000) {r w : List Nat} (hU : H U = some (.tup ((eK r w).map kV))) (c : Nat) (h1 : r.length ≤ 3) (h2 : w.length ≤ 3) (h3 : ∀ x ∈ r, x ∈ ls) :
    ∃ H', DPut H D (.ref U) (vN c) H' ∧ BS p g H0 H' D ls (k + 1) := by
  obtain ⟨kvs, e1, e2, e3⟩ := b.kv
  refine ⟨_, DPut.t e1 hU (by rw [sizeLine_eq]; omega), b.fx.mu b.nD, b.pl.put b.nD2, b.nD, b.nD2, _, upd_same, e2.put c h1 h2 h3, ?_⟩
  have := length_putK kvs (eK r w) (vN c)
  omega
abbrev rEd : Rp (List Nat × List Nat × Nat) := rP3 rS rS rN
def edK (e : List Nat × List Nat × Nat) : List Key := [kS e.1, kS e.2.1, kN e.2.2]
theorem ed_key {H : Hp} {v : V} {e : List Nat × List Nat × Nat} (h : rEd H v e) : ∃ a, v = .ref a ∧ H a = some (.tup ((edK e).map kV)) := by
  obtain ⟨a, x, y, z, rfl, ha, rfl, rfl, rfl⟩ := h
  exact ⟨a, rfl, ha⟩
theorem ed_back {H : Hp} {a : Addr} {e : List Nat × List Nat × Nat} (h : H a = some (.tup ((edK e).map kV))) : rEd H (.ref a) e := ⟨a, _, _, _, rfl, h, rfl, rfl, rfl⟩
def spBook : Sp := fun vs H Q _ => ∃ (p g : Addr) (ls : List Nat) (n : Nat), vs = [.ref p, .str ⟨ls.toArray⟩, .int (n : Int)] ∧ Pl H p g ∧ ls ≠ [] ∧ ls.length ≤ 3 ∧ n ≤ 10 ∧
  ∀ (v : V) (es : List (List Nat × List Nat × Nat)) (H' : Hp), Fx [p, g] H H' → Pl H' p g → rBook H' v (ls, es) → BOk (ls, es) → es.length ≤ 30 → Q v H'
section
variable {P : Program} {w : World} {K : PySem.W.Frag} {g : Str → Option Value} {base : Heap}
theorem ok_law_book (T : Txt K g) : FnOk P w K g base CX0 3 T.d_law_book.f T.d_law_book.fd P_law_book spBook := by
  refine T.d_law_book.F.ok sc_law_book (fun vs H Q E h => ?_) (fun cdv A outer s H vs Q E hr h => ?_)
  · obtain ⟨_, _, _, _, rfl, _⟩ := h
    rfl
  · obtain ⟨p, g, ls, n, rfl, hP, hls, hl3, hn, kk⟩ := h
    have hu := hu_of hr
    refine ⟨_, (pss_cons (ps_set (i := 3) sc_law_book.nd rfl (by first | exact Or.inl rfl | exact Or.inr rfl) pe_dnewT)
    (pss_cons (ps_set (i := 4) sc_law_book.nd rfl (by first | exact Or.inl rfl | exact Or.inr rfl) (pe_ix (kx_list (K := K) rfl) (pe_lst (pa_cons pe_int (pa_cons pe_int (pa_cons pe_int (pa_cons pe_int pa_nil))))) (pe_call (ok_law_draw T) (hr.mono (by decide)) rfl T.d_law_draw.mg T.d_law_draw.kp T.d_law_draw.b .nil pass0 (pa_cons (pv 0) (pa_cons pe_int pa_nil))) (fun _ _ => rfl)))
    (Evl.pss_cut (ps_if (pt_cmpR op_eq (pe_call (ok_law_draw T) (hr.mono (by decide)) rfl T.d_law_draw.mg T.d_law_draw.kp T.d_law_draw.b .nil pass0 (pa_cons (pv 0) (pa_cons pe_int pa_nil))) pe_int (nomark _))
      (pss_one (ps_for PassesOwn.never rfl (pi_str (pv 1)) (pg_name (i := 5) sc_law_book.nd rfl (by first | exact Or.inl rfl | exact Or.inr rfl))
        (pss_cons (ps_dput hu (pv 3) (pe_tup (pa_cons (pv 5) (pa_cons pe_str pa_nil))) (pe_op op_add pe_int (pe_call (ok_law_draw T) (hr.mono (by decide)) rfl T.d_law_draw.mg T.d_law_draw.kp T.d_law_draw.b .nil pass0 (pa_cons (pv 0) (pa_cons (pv 4) pa_nil)))) rfl)
        (pss_cons (ps_dput hu (pv 3) (pe_tup (pa_cons pe_str (pa_cons (pv 5) pa_nil))) (pe_op op_add pe_int (pe_call (ok_law_draw T) (hr.mono (by decide)) rfl T.d_law_draw.mg T.d_law_draw.kp T.d_law_draw.b .nil pass0 (pa_cons (pv 0) (pa_cons (pv 4) pa_nil)))) rfl)
        (pss_one (ps_for PassesOwn.never rfl (pi_str (pv 1)) (pg_name (i := 6) sc_law_book.nd rfl (by first | exact Or.inl rfl | exact Or.inr rfl))
          (pss_one (ps_if (PW.pt (pw_and (pt_cmpR op_ne (pv 5) (pv 6) (nomark _)) (pw_and1 (pt_cmpR op_eq (pe_call (ok_law_draw T) (hr.mono (by decide)) rfl T.d_law_draw.mg T.d_law_draw.kp T.d_law_draw.b .nil pass0 (pa_cons (pv 0) (pa_cons pe_int pa_nil))) pe_int (nomark _)))))
            (pss_one (ps_dput hu (pv 3) (pe_tup (pa_cons (pv 5) (pa_cons (pv 6) pa_nil))) (pe_op op_add pe_int (pe_call (ok_law_draw T) (hr.mono (by decide)) rfl T.d_law_draw.mg T.d_law_draw.kp T.d_law_draw.b .nil pass0 (pa_cons (pv 0) (pa_cons (pv 4) pa_nil)))) rfl))
            pss_nil))))))))
      pss_nil)
    (pss_cons (ps_for PassesOwn.never rfl (pi_range1 rfl T.z_range (pa_cons (pe_call (ok_law_draw T) (hr.mono (by decide)) rfl T.d_law_draw.mg T.d_law_draw.kp T.d_law_draw.b .nil pass0 (pa_cons (pv 0) (pa_cons (pe_op op_add (pv 2) pe_int) pa_nil))) pa_nil)) (pg_name (i := 7) sc_law_book.nd rfl (by first | exact Or.inl rfl | exact Or.inr rfl))
      (pss_cons (ps_set (i := 8) sc_law_book.nd rfl (by first | exact Or.inl rfl | exact Or.inr rfl) (pe_call (ok_law_text T) (hr.mono (by decide)) rfl T.d_law_text.mg T.d_law_text.kp T.d_law_text.b .nil pass0 (pa_cons (pv 0) (pa_cons (pv 1) (pa_cons pe_int pa_nil)))))
      (pss_cons (ps_set (i := 9) sc_law_book.nd rfl (by first | exact Or.inl rfl | exact Or.inr rfl) (pe_call (ok_law_text T) (hr.mono (by decide)) rfl T.d_law_text.mg T.d_law_text.kp T.d_law_text.b .nil pass0 (pa_cons (pv 0) (pa_cons (pv 1) (pa_cons pe_int pa_nil)))))
      (pss_one (ps_if (pt_cmpR op_ne (pv 8) (pv 9) (nomark _))
        (pss_one (ps_dput hu (pv 3) (pe_tup (pa_cons (pv 8) (pa_cons (pv 9) pa_nil))) (pe_op op_add pe_int (pe_call (ok_law_draw T) (hr.mono (by decide)) rfl T.d_law_draw.mg T.d_law_draw.kp T.d_law_draw.b .nil pass0 (pa_cons (pv 0) (pa_cons (pv 4) pa_nil)))) rfl))
        pss_nil)))))
    (pss_one (ps_ret (pe_tup (pa_cons (pv 1) (pa_cons (pe_callTy (kc_tuple (K := K) rfl) (by rfl) T.z_tuple (by decide +kernel) (pa_cons (pe_callB (kc_sortedTL (K := K) rfl) (by rfl) T.z_sorted (by decide +kernel) (pa_cons (pe_lock (pe_lc (own := [("key", 10)]) rfl sc_law_book.nd (pi_keys (pv 3)) (blkOk_by (N := N_law_book) (sc := defScope s_law_book) (by decide +kernel)) (fun _ _ _ _ _ => by exact (pg_name (i := 10) sc_law_book.nd rfl (by first | exact Or.inl rfl | exact Or.inr rfl))) (fun _ _ _ _ _ => by exact pts_nil) (fun _ _ _ _ _ => by exact (pe_op (ko_catT (K := K) rfl) (pv 10) (pe_tup (pa_cons (pe_dget hu (pv 3) (pv 10) (fun _ _ => rfl)) pa_nil)))))) pa_nil)) pa_nil)) pa_nil))))))))), ?_⟩
    intro D hD
    have b0 : BS p g H (upd H D (.dT [])) D ls 0 := ⟨(Fe.new hD).to, hP.keep (Fe.new hD), hD, hP.nw hD, [], upd_same, (fun _ z => nomatch z), Nat.le_refl _⟩
    -- dear
    refine ⟨by show 4 ≤ sizeLine; decide, fun L hL => ?_⟩
    have gL := Fe.new (o := .lst [.int 1, .int 3, .int 3, .int 40]) hL
    have b1 := b0.fe gL
    refine ⟨_, rfl, p, g, 4, rfl, b1.pl, by decide, by decide, fun r H1 f1 P1 hr4 => ?_⟩
    have b2 := b1.f f1 P1
    have nL := b0.pl.nw hL
    have hL1 := f1.keep _ _ nL (upd_same (o := HO.lst [.int 1, .int 3, .int 3, .int 40]))
    obtain ⟨dear, hdr, hd0, hd40⟩ : ∃ d : Nat, ([V.int 1, V.int 3, V.int 3, V.int 40] : List V)[r]? = some (vN d) ∧ 0 < d ∧ d ≤ 40 := by
      rcases (by omega : r = 0 ∨ r = 1 ∨ r = 2 ∨ r = 3) with rfl | rfl | rfl | rfl
      · exact ⟨1, rfl, by decide, by decide⟩
      · exact ⟨3, rfl, by decide, by decide⟩
      · exact ⟨3, rfl, by decide, by decide⟩
      · exact ⟨40, rfl, by decide, by decide⟩
    refine ⟨L, _, _, vN dear, rfl, rfl, SqL.of hL1, atI_nat hdr, ?_⟩
    clear hdr hL1 nL
    -- if
    refine ⟨fun σ' H' => ∃ o5 o6 : Option V, σ' = [some (.ref p), some (.str ⟨ls.toArray⟩), some (.int (n : Int)), some (.ref D), some (vN dear), o5, o6, none, none, none, none] ∧ BS p g H H' D ls 15, ?_, ?_⟩
    · refine ⟨_, rfl, p, g, 2, rfl, P1, by decide, by decide, fun r2 H2 f2 P2 _ => ⟨rfl, _, rfl, ?_⟩⟩
      have b3 := b2.f f2 P2
      refine ite2 (fun _ => ?_) (fun _ => ⟨_, _, rfl, b3.wk (by decide)⟩)
      refine ⟨_, rfl, _, rfl, for_str (l := ls) (fun i σ' H' => ∃ o5 o6 : Option V, σ' = [some (.ref p), some (.str ⟨ls.toArray⟩), some (.int (n : Int)), some (.ref D), some (vN dear), o5, o6, none, none, none, none] ∧ BS p g H H' D ls (5 * i)) ⟨_, _, rfl, b3⟩ ?_ (fun σ' H' ⟨o5, o6, e, b⟩ => ⟨o5, o6, e, b.wk (by omega)⟩)⟩
      rintro i x σ' H' hx ⟨o5, o6, rfl, b⟩
      have hil := (List.getElem?_eq_some_iff.mp hx).1
      have hxm := List.mem_of_getElem? hx
      -- found[(x, "")] = 1 + ..
      refine ⟨_, rfl, _, rfl, p, g, dear, rfl, b.pl, hd0, by omega, fun c1 H3 f3 P3 _ => ⟨_, _, rfl, rfl, _, rfl, _, rfl, by show 2 ≤ sizeLine; decide, fun U1 hU1 => ?_⟩⟩
      have b4 := (b.f f3 P3).fe (Fe.new (o := .tup [s1 x, .str ""]) hU1)
      obtain ⟨H4, hp4, b5⟩ := b4.put (by omega) (r := [x]) (w := []) (by rw [upd_same, str_nil]; rfl) (1 + c1) (by simp) (by simp) (by simpa using hxm)
      have ev1 : V.int (1 + (c1 : Int)) = vN (1 + c1) := by show _ = V.int _; rw [Int.natCast_add]; rfl
      refine ⟨D, H4, rfl, by rw [← ev1] at hp4; exact hp4, ?_⟩
      -- found[("", x)] = 1 + ..
      refine ⟨_, rfl, _, rfl, p, g, dear, rfl, b5.pl, hd0, by omega, fun c2 H5 f5 P5 _ => ⟨_, _, rfl, rfl, _, rfl, _, rfl, by show 2 ≤ sizeLine; decide, fun U2 hU2 => ?_⟩⟩
      have b6 := (b5.f f5 P5).fe (Fe.new (o := .tup [.str "", s1 x]) hU2)
      obtain ⟨H6, hp6, b7⟩ := b6.put (by omega) (r := []) (w := [x]) (by rw [upd_same, str_nil]; rfl) (1 + c2) (by simp) (by simp) (by simp)
      have ev2 : V.int (1 + (c2 : Int)) = vN (1 + c2) := by show _ = V.int _; rw [Int.natCast_add]; rfl
      refine ⟨D, H6, rfl, by rw [← ev2] at hp6; exact hp6, ?_⟩
      refine ⟨_, rfl, _, rfl, for_str (l := ls) (fun j σ' H' => ∃ o6 : Option V, σ' = [some (.ref p), some (.str ⟨ls.toArray⟩), some (.int (n : Int)), some (.ref D), some (vN dear), some (s1 x), o6, none, none, none, none] ∧ BS p g H H' D ls (5 * i + 2 + j)) ⟨_, rfl, b7⟩ ?_ (fun σ' H' ⟨o6, e, b⟩ => ⟨_, o6, e, b.wk (by omega)⟩)⟩
      rintro j y σ' H7 hy ⟨o6, rfl, b8⟩
      have hjl := (List.getElem?_eq_some_iff.mp hy).1
      refine ⟨_, rfl, _, rfl, rfl, _, rfl, ?_⟩
      refine ite2 (fun _ => ?_) (fun _ => ?_)
      · refine ⟨_, rfl, p, g, 2, rfl, b8.pl, by decide, by decide, fun r3 H8 f8 P8 _ => ⟨rfl, _, rfl, ?_⟩⟩
        have b9 := b8.f f8 P8
        refine ite2 (fun _ => ?_) (fun _ => ⟨_, rfl, b9.wk (by omega)⟩)
        refine ⟨_, rfl, _, rfl, p, g, dear, rfl, P8, hd0, by omega, fun c3 H9 f9 P9 _ => ⟨_, _, rfl, rfl, _, rfl, _, rfl, _, rfl, by show 2 ≤ sizeLine; decide, fun U3 hU3 => ?_⟩⟩
        have b10 := (b9.f f9 P9).fe (Fe.new (o := .tup [s1 x, s1 y]) hU3)
        obtain ⟨H10, hp10, b11⟩ := b10.put (by omega) (r := [x]) (w := [y]) (by rw [upd_same]; rfl) (1 + c3) (by simp) (by simp) (by simpa using hxm)
        have ev3 : V.int (1 + (c3 : Int)) = vN (1 + c3) := by show _ = V.int _; rw [Int.natCast_add]; rfl
        exact ⟨D, H10, rfl, by rw [← ev3] at hp10; exact hp10, _, rfl, b11.wk (by omega)⟩
      · exact iteF ⟨_, rfl, b8.wk (by omega)⟩
    · rintro σ' H3 ⟨o5, o6, rfl, b3⟩
      refine ⟨_, rfl, _, rfl, _, _, rfl, rfl, p, g, n + 1, rfl, b3.pl, by omega, by omega, fun r H4 f4 P4 hr4 => ⟨_, rfl, by omega, by omega, ?_⟩⟩
      have hcn : (r : Int).toNat = r := by omega
      rw [hcn]
      refine for_range (lo := 0) (n := r) (fun i σ' H' => ∃ o5 o6 o7 o8 o9 : Option V, σ' = [some (.ref p), some (.str ⟨ls.toArray⟩), some (.int (n : Int)), some (.ref D), some (vN dear), o5, o6, o7, o8, o9, none] ∧ BS p g H H' D ls (15 + i)) ⟨_, _, _, _, _, rfl, b3.f f4 P4⟩ ?_ ?_
      · rintro i σ' H' hi ⟨o5, o6, o7, o8, o9, rfl, b⟩
        refine ⟨_, rfl, _, rfl, p, g, ls, 3, rfl, b.pl, hls, by omega, by decide, fun t1 H5 f5 P5 ht1 hl1 => ?_⟩
        have b5 := b.f f5 P5
        refine ⟨_, rfl, _, rfl, p, g, ls, 3, rfl, P5, hls, by omega, by decide, fun t2 H6 f6 P6 ht2 hl2 => ?_⟩
        have b6 := b5.f f6 P6
        refine ⟨_, rfl, _, rfl, rfl, _, rfl, ?_⟩
        refine ite2 (fun _ => ?_) (fun _ => ⟨_, _, _, _, _, rfl, b6.wk (by omega)⟩)
        refine ⟨_, rfl, _, rfl, p, g, dear, rfl, P6, hd0, by omega, fun c3 H9 f9 P9 _ => ⟨_, _, rfl, rfl, _, rfl, _, rfl, _, rfl, by show 2 ≤ sizeLine; decide, fun U3 hU3 => ?_⟩⟩
        have b10 := (b6.f f9 P9).fe (Fe.new (o := .tup [.str ⟨t1.toArray⟩, .str ⟨t2.toArray⟩]) hU3)
        obtain ⟨H10, hp10, b11⟩ := b10.put (by omega) (r := t1) (w := t2) (by rw [upd_same]; rfl) (1 + c3) hl1 hl2 ht1
        have ev3 : V.int (1 + (c3 : Int)) = vN (1 + c3) := by show _ = V.int _; rw [Int.natCast_add]; rfl
        exact ⟨D, H10, rfl, by rw [← ev3] at hp10; exact hp10, _, _, _, _, _, rfl, b11⟩
      · rintro σ' H5 ⟨o5, o6, o7, o8, o9, rfl, b⟩
        obtain ⟨kvs, hDk, db, hkl⟩ := b.kv
        refine ⟨_, rfl, D, .dT kvs, hDk, trivial, fun od => ?_⟩
        have fL : Fx [p, g] H (upd H5 D (.frz od (.dT kvs))) := b.fx.mu b.nD
        have PL : Pl (upd H5 D (.frz od (.dT kvs))) p g := b.pl.put b.nD2
        have hlk : (upd H5 D (.frz od (.dT kvs))) D = some (.frz od (.dT kvs)) := upd_same
        generalize upd H5 D (.frz od (.dT kvs)) = HL at fL PL hlk
        refine ⟨_, rfl, D, od, rfl, .inr ⟨kvs, hlk, fun C hC => lc_by kvs.length (fun i H' => ∃ l : List (List Nat × List Nat × Nat), Cmp rEd HL C l H' ∧ l.length = i ∧ ∀ e ∈ l, e.1.length ≤ 3 ∧ e.2.1.length ≤ 3 ∧ ∀ x ∈ e.1, x ∈ ls) ⟨[], Cmp.start hC, rfl, fun _ z => nomatch z⟩ (fun i H' hi ⟨l, c, _⟩ => ⟨c.fe.k hlk, hi⟩) (fun H' ⟨l, c, _⟩ => ⟨c.fe.k hlk, Nat.le_refl _⟩) ?_ ?_⟩⟩
        · rintro i xv H' H6 hi ⟨l, c, hll, hlo⟩ ⟨rfl, k, v, q, hkv, rfl, hq⟩
          obtain ⟨r1, w1, c1, hke, h1, h2, h3⟩ := db (k, v) (List.mem_of_getElem? hkv)
          have hk1 : k = eK r1 w1 := congrArg Prod.fst hke
          obtain ⟨v', hv1, hv2⟩ := valV_mem (List.mem_of_getElem? hkv)
          obtain ⟨r2, w2, c2, hke2, _⟩ := db (k, v') hv2
          have hv' : v' = vN c2 := congrArg Prod.snd hke2
          subst hk1 hv'
          refine ⟨rfl, _, rfl, _, rfl, _, rfl, D, vN c2, rfl, by rw [← hv1]; exact .inr ⟨kvs, _, q, .inr ⟨od, c.fe.k hlk⟩, rfl, hq, rfl⟩, by show 1 ≤ sizeLine; decide, fun T hT => ?_⟩
          have gT := Fe.new (o := .tup [vN c2]) hT
          refine ⟨q, T, _, _, rfl, rfl, SqT.of (gT.k hq), SqT.of upd_same, (fun z => nomatch z), by show 3 ≤ sizeLine; decide, (fun z => nomatch z), fun _ T2 hT2 => ?_⟩
          have gT2 := Fe.new (o := .tup ((eK r1 w1).map kV ++ [vN c2])) hT2
          obtain ⟨acc, a1, a2, a3⟩ := c.add (x := (r1, w1, c2)) (y := .ref T2) (by omega) (gT.trans gT2) ⟨T2, _, _, _, rfl, upd_same, rfl, rfl, rfl⟩
          refine ⟨acc, a1, a2, _, a3, by rw [List.length_append, List.length_singleton]; omega, fun e he => ?_⟩
          rcases List.mem_append.mp he with he | he
          · exact hlo e he
          · rw [List.mem_singleton.mp he]; exact ⟨h1, h2, h3⟩
        · rintro H6 ⟨l, c, hll, hlo⟩
          refine ⟨c.fe.k hlk, ?_⟩
          obtain ⟨_, vs0, eC, hCv, al⟩ := c.rl
          cases eC
          have nDC : D ≠ C := ne_of_none hlk hC
          have fD : Fx [D] H6 (upd H6 D (.dT kvs)) := Fx.put (c.fe.k hlk) (List.mem_singleton.mpr rfl) (fun _ z => nomatch z)
          have P7 : Pl (upd H6 D (.dT kvs)) p g := (PL.keep c.fe).put b.nD2
          have f7 : Fx [p, g] H (upd H6 D (.dT kvs)) := (fL.trans c.fe.to).mu b.nD
          have hC7 : (upd H6 D (.dT kvs)) C = some (.lst vs0) := by rw [upd_ne nDC.symm]; exact hCv
          have al7 := Al.mo fD al
          generalize upd H6 D (.dT kvs) = H7 at P7 f7 hC7 al7
          obtain ⟨ps, rfl, hpl, hps⟩ := tl_of edK (fun v x h => ed_key h) al7
          refine ⟨C, ps, [true, true, false], rfl, SqL.of hC7, fun pr hpr => ?_, by decide, fun ps' q hperm hq => ?_⟩
          · obtain ⟨e, _, e1, e2⟩ := hps pr hpr
            exact ⟨SqT.of e2, by rw [e1]; rfl⟩
          have gq := Fe.new (o := .lst (ps'.map fun q => V.ref q.1)) hq
          refine ⟨q, _, rfl, .inl ⟨SqL.of upd_same, fun u hu => ⟨by show 2 ≤ sizeLine; decide, fun Z hZ => ?_⟩⟩⟩
          have gu := Fe.new (o := .tup (ps'.map fun q => V.ref q.1)) hu
          have gZ := Fe.new (o := .tup [.str ⟨(ls).toArray⟩, .ref u]) hZ
          have g3 := (gq.trans gu).trans gZ
          obtain ⟨es, q1, q2, q3⟩ := tl_back (r := rEd) (H := upd (upd (upd H7 q (.lst (ps'.map fun q => V.ref q.1))) u (.tup (ps'.map fun q => V.ref q.1))) Z (.tup [.str ⟨(ls).toArray⟩, .ref u])) edK (fun a x h => ed_back h) l ps' fun pr hpr => by
            obtain ⟨e, h1, h2, h3⟩ := hps pr (hperm.mem_iff.mp hpr)
            exact ⟨e, h1, h2, g3.k h3⟩
          have hel : es.length ≤ 30 := by
            have := congrArg List.length q3
            rw [List.length_map, List.length_map, hperm.length_eq] at this
            omega
          refine kk _ es _ (f7.trans g3.to) (P7.keep g3) ⟨Z, _, _, rfl, upd_same, rfl, ⟨u, _, rfl, gZ.k upd_same, q1⟩⟩ ⟨by show es.length ≤ 60; omega, fun e he => (hlo e (q2 e he)).1, fun e he => (hlo e (q2 e he)).2.1, fun e he => (hlo e (q2 e he)).2.2, by show ls.length ≤ 100; omega⟩ hel
end
end Fm
namespace Fm
open PySem L2
theorem Fx.k_t {M : List Addr} {H H' H'' : Hp} (g : Fe H' H'') (f : Fx M H H') {t : Addr} {xs : List V} (h : H t = some (.tup xs)) : H'' t = some (.tup xs) := g.k (f.tups _ _ h)
theorem v1 (r : Nat) : V.int (1 + (r : Int)) = vN (1 + r) := by show _ = V.int _; rw [Int.natCast_add]; rfl
theorem DB.merge {ls : List Nat} : ∀ (more : BKV) (kvs : BKV), DB ls kvs → DB ls more → DB ls (mergeT kvs more)
  | [], _, h, _ => h
  | x :: more, kvs, h, hm => DB.merge more (putK kvs x.1 x.2) (fun kv hkv => by
      rcases putK_mem hkv with e | e
      · exact hm kv (by rw [e]; exact List.mem_cons_self)
      · exact h kv e) fun kv hkv => hm kv (List.mem_cons_of_mem _ hkv)
theorem BS.put2 {p g : Addr} {H0 H : Hp} {D U : Addr} {ls : List Nat} {k : Nat} (b : BS p g H0 H D ls k) (hk : k < 1000) {r w : List Nat} (hU : H U = some (.tup ((eK r w).map kV))) (c : Nat) (h1 : r.length ≤ 3) (h2 : w.length ≤ 3) (h3 : ∀ x ∈ r, x ∈ ls) :
    ∃ kvs, DPut H D (.ref U) (vN c) (upd H D (.dT kvs)) ∧ BS p g H0 (upd H D (.dT kvs)) D ls (k + 1) := by
  obtain ⟨kvs, e1, e2, e3⟩ := b.kv
  refine ⟨_, DPut.t e1 hU (by rw [sizeLine_eq]; omega), b.fx.mu b.nD, b.pl.put b.nD2, b.nD, b.nD2, _, upd_same, e2.put c h1 h2 h3, ?_⟩
  have := length_putK kvs (eK r w) (vN c)
  omega
theorem s2_ (a b : Nat) : (⟨#[a]⟩ : Str) ++ ⟨#[b]⟩ = ⟨[a, b].toArray⟩ := SX.S_cat [a] [b]
theorem s3_ (a b c : Nat) : (⟨#[a]⟩ : Str) ++ ⟨#[b]⟩ ++ ⟨#[c]⟩ = ⟨[a, b, c].toArray⟩ := by rw [s2_]; exact SX.S_cat [a, b] [c]
theorem sz2 (a b : Nat) : (⟨#[a]⟩ : Str).length + (⟨#[b]⟩ : Str).length ≤ sizeLine := by show 1 + 1 ≤ sizeLine; decide
theorem sz3 (a b c : Nat) : ((⟨#[a]⟩ : Str) ++ ⟨#[b]⟩).length + (⟨#[c]⟩ : Str).length ≤ sizeLine := by rw [s2_]; show 2 + 1 ≤ sizeLine; decide
def spFull : Sp := fun vs H Q _ => ∃ (p g : Addr) (a b : Nat), vs = [.ref p, s1 a, s1 b] ∧ Pl H p g ∧ ∀ (v : V) (es : List (List Nat × List Nat × Nat)) (H' : Hp), Fx [p, g] H H' → Pl H' p g → rBook H' v ([a, b], es) → BOk ([a, b], es) → es.length ≤ 30 → Q v H'
section
variable {P : Program} {w : World} {K : PySem.W.Frag} {g : Str → Option Value} {base : Heap}
theorem ok_law_full (T : Txt K g) : FnOk P w K g base CX0 2 T.d_law_full.f T.d_law_full.fd P_law_full spFull := by
  refine T.d_law_full.F.ok sc_law_full (fun vs H Q E h => ?_) (fun cdv A outer s H vs Q E hr h => ?_)
  · obtain ⟨_, _, _, _, rfl, _⟩ := h
    rfl
  · obtain ⟨p, g, a, b, rfl, hP, kk⟩ := h
    have hu := hu_of hr
    refine ⟨_, (pss_cons (ps_set (i := 3) sc_law_full.nd rfl (by first | exact Or.inl rfl | exact Or.inr rfl) (pe_op op_add pe_int (pe_call (ok_law_draw T) (hr.mono (by decide)) rfl T.d_law_draw.mg T.d_law_draw.kp T.d_law_draw.b .nil pass0 (pa_cons (pv 0) (pa_cons pe_int pa_nil)))))
    (pss_cons (ps_set (i := 4) sc_law_full.nd rfl (by first | exact Or.inl rfl | exact Or.inr rfl) (pe_op op_add pe_int (pe_call (ok_law_draw T) (hr.mono (by decide)) rfl T.d_law_draw.mg T.d_law_draw.kp T.d_law_draw.b .nil pass0 (pa_cons (pv 0) (pa_cons pe_int pa_nil)))))
    (pss_cons (ps_set (i := 5) sc_law_full.nd rfl (by first | exact Or.inl rfl | exact Or.inr rfl) (ke_dispT hr.units0 (pps_cons (pe_tup (pa_cons pe_str (pa_cons (pv 1) pa_nil))) (pv 3) (pps_cons (pe_tup (pa_cons pe_str (pa_cons (pv 2) pa_nil))) (pv 3) (pps_cons (pe_tup (pa_cons (pv 1) (pa_cons pe_str pa_nil))) (pv 4) (pps_cons (pe_tup (pa_cons (pv 2) (pa_cons pe_str pa_nil))) (pv 4) (pps_cons (pe_tup (pa_cons (pv 1) (pa_cons (pv 2) pa_nil))) (pe_op op_sub (pe_op op_add (pv 3) (pv 4)) (pe_call (ok_law_draw T) (hr.mono (by decide)) rfl T.d_law_draw.mg T.d_law_draw.kp T.d_law_draw.b .nil pass0 (pa_cons (pv 0) (pa_cons pe_int pa_nil)))) (pps_cons (pe_tup (pa_cons (pv 2) (pa_cons (pv 1) pa_nil))) (pe_op op_add (pv 3) (pv 4)) pps_nil)))))) (by rfl) (by rfl) (fun z => by cases z) (by decide)))
    (pss_cons (ps_for PassesOwn.never rfl (ki_list (K := K) rfl (pe_lst (pa_cons (pe_tup (pa_cons (pe_op op_add_str (pv 1) (pv 2)) (pa_cons (pe_op op_add_str (pv 2) (pv 1)) pa_nil))) (pa_cons (pe_tup (pa_cons (pe_op op_add_str (pe_op op_add_str (pv 1) (pv 2)) (pv 1)) (pa_cons (pv 2) pa_nil))) (pa_cons (pe_tup (pa_cons (pe_op op_add_str (pv 2) (pv 2)) (pa_cons pe_str pa_nil))) (pa_cons (pe_tup (pa_cons pe_str (pa_cons (pe_op op_add_str (pv 1) (pv 2)) pa_nil))) (pa_cons (pe_tup (pa_cons (pv 2) (pa_cons (pe_op op_add_str (pe_op op_add_str (pv 1) (pv 1)) (pv 2)) pa_nil))) (pa_cons (pe_tup (pa_cons (pe_op op_add_str (pv 1) (pv 1)) (pa_cons (pe_op op_add_str (pv 2) (pv 2)) pa_nil))) pa_nil)))))))) (kg_tup (K := K) 2 rfl rfl (pgs_cons (pg_name (i := 6) sc_law_full.nd rfl (by first | exact Or.inl rfl | exact Or.inr rfl)) (pgs_cons (pg_name (i := 7) sc_law_full.nd rfl (by first | exact Or.inl rfl | exact Or.inr rfl)) pgs_nil)))
      (pss_one (ps_if (pt_cmpR op_eq (pe_call (ok_law_draw T) (hr.mono (by decide)) rfl T.d_law_draw.mg T.d_law_draw.kp T.d_law_draw.b .nil pass0 (pa_cons (pv 0) (pa_cons pe_int pa_nil))) pe_int (nomark _))
        (pss_one (ps_dput hu (pv 5) (pe_tup (pa_cons (pv 6) (pa_cons (pv 7) pa_nil))) (pe_op op_add pe_int (pe_call (ok_law_draw T) (hr.mono (by decide)) rfl T.d_law_draw.mg T.d_law_draw.kp T.d_law_draw.b .nil pass0 (pa_cons (pv 0) (pa_cons pe_int pa_nil)))) rfl))
        pss_nil)))
    (pss_one (ps_ret (pe_tup (pa_cons (pe_op op_add_str (pv 1) (pv 2)) (pa_cons (pe_callTy (kc_tuple (K := K) rfl) (by rfl) T.z_tuple (by decide +kernel) (pa_cons (pe_callB (kc_sortedTL (K := K) rfl) (by rfl) T.z_sorted (by decide +kernel) (pa_cons (pe_lock (pe_lc (own := [("key", 8)]) rfl sc_law_full.nd (pi_keys (pv 5)) (blkOk_by (N := N_law_full) (sc := defScope s_law_full) (by decide +kernel)) (fun _ _ _ _ _ => by exact (pg_name (i := 8) sc_law_full.nd rfl (by first | exact Or.inl rfl | exact Or.inr rfl))) (fun _ _ _ _ _ => by exact pts_nil) (fun _ _ _ _ _ => by exact (pe_op (ko_catT (K := K) rfl) (pv 8) (pe_tup (pa_cons (pe_dget hu (pv 5) (pv 8) (fun _ _ => rfl)) pa_nil)))))) pa_nil)) pa_nil)) pa_nil))))))))), ?_⟩
    refine ⟨_, rfl, p, g, 3, rfl, hP, by decide, by decide, fun r1 H1 f1 P1 _ => ⟨_, _, rfl, rfl, ?_⟩⟩
    refine ⟨_, rfl, p, g, 3, rfl, P1, by decide, by decide, fun r2 H2 f2 P2 _ => ⟨_, _, rfl, rfl, ?_⟩⟩
    intro D hD
    have nD := P2.nw hD
    have gD := Fe.new (o := .dT []) hD
    have P3 := P2.keep gD
    have f3 : Fx [p, g] H (upd H2 D (.dT [])) := (f1.trans f2).trans gD.to
    have hD0 : H D = none := (f1.trans f2).fr nD hD
    have hDk : (upd H2 D (.dT [])) D = some (.dT []) := upd_same
    generalize upd H2 D (.dT []) = H3 at P3 f3 hDk
    refine ⟨_, rfl, by show 2 ≤ sizeLine; decide, fun U1 h1 => ⟨_, rfl, ?_⟩⟩
    refine ⟨_, rfl, by show 2 ≤ sizeLine; decide, fun U2 h2 => ⟨_, rfl, ?_⟩⟩
    refine ⟨_, rfl, by show 2 ≤ sizeLine; decide, fun U3 h3 => ⟨_, rfl, ?_⟩⟩
    refine ⟨_, rfl, by show 2 ≤ sizeLine; decide, fun U4 h4 => ⟨_, rfl, ?_⟩⟩
    refine ⟨_, rfl, _, rfl, by show 2 ≤ sizeLine; decide, fun U5 h5 => ?_⟩
    have g1 := Fe.new (o := .tup [.str "", s1 a]) h1
    have g2 := Fe.new (o := .tup [.str "", s1 b]) h2
    have g3 := Fe.new (o := .tup [s1 a, .str ""]) h3
    have g4 := Fe.new (o := .tup [s1 b, .str ""]) h4
    have g5 := Fe.new (o := .tup [s1 a, s1 b]) h5
    have g15 := (((g1.trans g2).trans g3).trans g4).trans g5
    have P5 := P3.keep g15
    refine ⟨_, rfl, _, rfl, _, _, rfl, rfl, _, rfl, p, g, 2, rfl, P5, by decide, by decide, fun r3 H5 f5 P5' hr3 => ⟨_, _, rfl, rfl, ?_⟩⟩
    refine ⟨_, rfl, _, rfl, by show 2 ≤ sizeLine; decide, fun U6 h6 => ⟨_, rfl, _, rfl, _, _, rfl, rfl, ?_⟩⟩
    have g6 := Fe.new (o := .tup [s1 b, s1 a]) h6
    have hD5 := g6.k (f5.keep _ _ nD (g15.k hDk))
    have k1 := g6.k_t f5 ((((g2.trans g3).trans g4).trans g5).k (upd_same (a := U1) (o := .tup [.str "", s1 a])))
    have k2 := g6.k_t f5 (((g3.trans g4).trans g5).k (upd_same (a := U2) (o := .tup [.str "", s1 b])))
    have k3 := g6.k_t f5 ((g4.trans g5).k (upd_same (a := U3) (o := .tup [s1 a, .str ""])))
    have k4 := g6.k_t f5 (g5.k (upd_same (a := U4) (o := .tup [s1 b, .str ""])))
    have k5 := g6.k_t f5 (upd_same (a := U5) (o := .tup [s1 a, s1 b]))
    have k6 := upd_same (H := H5) (a := U6) (o := .tup [s1 b, s1 a])
    have P6 := P5'.keep g6
    have f6 := ((f3.trans g15.to).trans f5).trans g6.to
    have ev5 : V.int (1 + (r1 : Int) + (1 + (r2 : Int)) - (r3 : Int)) = vN (1 + r1 + (1 + r2) - r3) := by
      show _ = V.int _
      rw [show ((1 + r1 + (1 + r2) - r3 : Nat) : Int) = 1 + (r1 : Int) + (1 + (r2 : Int)) - (r3 : Int) by omega]
    have ev6 : V.int (1 + (r1 : Int) + (1 + (r2 : Int))) = vN (1 + r1 + (1 + r2)) := by
      show _ = V.int _
      rw [show ((1 + r1 + (1 + r2) : Nat) : Int) = 1 + (r1 : Int) + (1 + (r2 : Int)) by omega]
    generalize upd H5 U6 (.tup [s1 b, s1 a]) = H6 at hD5 k1 k2 k3 k4 k5 k6 P6 f6 ⊢
    clear g1 g2 g3 g4 g5 g15 g6 f5 P5 P5' h1 h2 h3 h4 h5 h6
    refine ⟨hD5, [(eK [] [a], U1, vN (1 + r1)), (eK [] [b], U2, vN (1 + r1)), (eK [a] [], U3, vN (1 + r2)), (eK [b] [], U4, vN (1 + r2)), (eK [a] [b], U5, vN (1 + r1 + (1 + r2) - r3)), (eK [b] [a], U6, vN (1 + r1 + (1 + r2)))], ?_, ?_, by show 6 ≤ 15; decide, ?_⟩
    · show _ = [(V.ref U1, vN (1 + r1)), (V.ref U2, vN (1 + r1)), (V.ref U3, vN (1 + r2)), (V.ref U4, vN (1 + r2)), (V.ref U5, vN (1 + r1 + (1 + r2) - r3)), (V.ref U6, vN (1 + r1 + (1 + r2)))]
      rw [← v1, ← v1, ← ev5, ← ev6]
    · intro t ht
      simp only [List.mem_cons, List.not_mem_nil, or_false] at ht
      rw [str_nil] at k1 k2 k3 k4
      rcases ht with rfl | rfl | rfl | rfl | rfl | rfl
      · exact k1
      · exact k2
      · exact k3
      · exact k4
      · exact k5
      · exact k6
    have db : DB [a, b] (mergeT [] (([(eK [] [a], U1, vN (1 + r1)), (eK [] [b], U2, vN (1 + r1)), (eK [a] [], U3, vN (1 + r2)), (eK [b] [], U4, vN (1 + r2)), (eK [a] [b], U5, vN (1 + r1 + (1 + r2) - r3)), (eK [b] [a], U6, vN (1 + r1 + (1 + r2)))] : List (List Key × Addr × V)).map fun t => (t.1, t.2.2))) := by
      refine DB.merge _ _ (fun _ z => nomatch z) fun kv hkv => ?_
      simp only [List.map_cons, List.map_nil, List.mem_cons, List.not_mem_nil, or_false] at hkv
      rcases hkv with rfl | rfl | rfl | rfl | rfl | rfl
      · exact ⟨[], [a], _, rfl, by simp, by simp, by simp⟩
      · exact ⟨[], [b], _, rfl, by simp, by simp, by simp⟩
      · exact ⟨[a], [], _, rfl, by simp, by simp, by simp⟩
      · exact ⟨[b], [], _, rfl, by simp, by simp, by simp⟩
      · exact ⟨[a], [b], _, rfl, by simp, by simp, by simp⟩
      · exact ⟨[b], [a], _, rfl, by simp, by simp, by simp⟩
    have dl := mergeT_len (([(eK [] [a], U1, vN (1 + r1)), (eK [] [b], U2, vN (1 + r1)), (eK [a] [], U3, vN (1 + r2)), (eK [b] [], U4, vN (1 + r2)), (eK [a] [b], U5, vN (1 + r1 + (1 + r2) - r3)), (eK [b] [a], U6, vN (1 + r1 + (1 + r2)))] : List (List Key × Addr × V)).map fun t => (t.1, t.2.2)) []
    generalize mergeT [] (([(eK [] [a], U1, vN (1 + r1)), (eK [] [b], U2, vN (1 + r1)), (eK [a] [], U3, vN (1 + r2)), (eK [b] [], U4, vN (1 + r2)), (eK [a] [b], U5, vN (1 + r1 + (1 + r2) - r3)), (eK [b] [a], U6, vN (1 + r1 + (1 + r2)))] : List (List Key × Addr × V)).map fun t => (t.1, t.2.2)) = kvs at db dl ⊢
    have b0 : BS p g H (upd H6 D (.dT kvs)) D [a, b] 6 := ⟨f6.mu hD0, P6.put nD, hD0, nD, kvs, upd_same, db, dl⟩
    generalize upd H6 D (.dT kvs) = H7 at b0
    clear k1 k2 k3 k4 k5 k6 db dl P6 f6 hD5 ev5 ev6
    have nDL : True := trivial
    refine ⟨_, rfl, _, rfl, _, _, rfl, rfl, (sz2 _ _), _, rfl, _, rfl, _, _, rfl, rfl, (sz2 _ _), by show 2 ≤ sizeLine; decide, fun W0 hW0 => ?_⟩
    have w0 := Fe.new (o := .tup [.str (⟨#[a]⟩ ++ ⟨#[b]⟩), .str (⟨#[b]⟩ ++ ⟨#[a]⟩)]) hW0
    refine ⟨_, rfl, _, rfl, _, _, rfl, rfl, (sz2 _ _), _, rfl, _, _, rfl, rfl, (sz3 _ _ _), _, rfl, by show 2 ≤ sizeLine; decide, fun W1 hW1 => ?_⟩
    have w1 := Fe.new (o := .tup [.str (⟨#[a]⟩ ++ ⟨#[b]⟩ ++ ⟨#[a]⟩), s1 b]) hW1
    refine ⟨_, rfl, _, rfl, _, _, rfl, rfl, (sz2 _ _), by show 2 ≤ sizeLine; decide, fun W2 hW2 => ?_⟩
    have w2 := Fe.new (o := .tup [.str (⟨#[b]⟩ ++ ⟨#[b]⟩), .str ""]) hW2
    refine ⟨_, rfl, _, rfl, _, _, rfl, rfl, (sz2 _ _), by show 2 ≤ sizeLine; decide, fun W3 hW3 => ?_⟩
    have w3 := Fe.new (o := .tup [.str "", .str (⟨#[a]⟩ ++ ⟨#[b]⟩)]) hW3
    refine ⟨_, rfl, _, rfl, _, rfl, _, _, rfl, rfl, (sz2 _ _), _, rfl, _, _, rfl, rfl, (sz3 _ _ _), by show 2 ≤ sizeLine; decide, fun W4 hW4 => ?_⟩
    have w4 := Fe.new (o := .tup [s1 b, .str (⟨#[a]⟩ ++ ⟨#[a]⟩ ++ ⟨#[b]⟩)]) hW4
    refine ⟨_, rfl, _, rfl, _, _, rfl, rfl, (sz2 _ _), _, rfl, _, rfl, _, _, rfl, rfl, (sz2 _ _), by show 2 ≤ sizeLine; decide, fun W5 hW5 => ?_⟩
    have w5 := Fe.new (o := .tup [.str (⟨#[a]⟩ ++ ⟨#[a]⟩), .str (⟨#[b]⟩ ++ ⟨#[b]⟩)]) hW5
    refine ⟨by show 6 ≤ sizeLine; decide, fun L hL => ?_⟩
    have wL := Fe.new (o := .lst [.ref W0, .ref W1, .ref W2, .ref W3, .ref W4, .ref W5]) hL
    have wall := (((((w0.trans w1).trans w2).trans w3).trans w4).trans w5).trans wL
    have b1 := b0.fe wall
    have hprs : Al (rP rS rS) _ [.ref W0, .ref W1, .ref W2, .ref W3, .ref W4, .ref W5] [([a, b], [b, a]), ([a, b, a], [b]), ([b, b], []), ([], [a, b]), ([b], [a, a, b]), ([a, a], [b, b])] := .cons ⟨W0, _, _, rfl, (w1.trans (w2.trans (w3.trans (w4.trans (w5.trans (wL)))))).k upd_same, (congrArg V.str (s2_ a b)), (congrArg V.str (s2_ b a))⟩ (.cons ⟨W1, _, _, rfl, (w2.trans (w3.trans (w4.trans (w5.trans (wL))))).k upd_same, (congrArg V.str (s3_ a b a)), rfl⟩ (.cons ⟨W2, _, _, rfl, (w3.trans (w4.trans (w5.trans (wL)))).k upd_same, (congrArg V.str (s2_ b b)), (congrArg V.str str_nil)⟩ (.cons ⟨W3, _, _, rfl, (w4.trans (w5.trans (wL))).k upd_same, (congrArg V.str str_nil), (congrArg V.str (s2_ a b))⟩ (.cons ⟨W4, _, _, rfl, (w5.trans (wL)).k upd_same, rfl, (congrArg V.str (s3_ a a b))⟩ (.cons ⟨W5, _, _, rfl, (wL).k upd_same, (congrArg V.str (s2_ a a)), (congrArg V.str (s2_ b b))⟩ .nil)))))
    have nL := (b0.fe (((((w0.trans w1).trans w2).trans w3).trans w4).trans w5)).pl.nw hL
    have hDL : D ≠ L := by
      obtain ⟨kvs, hk, _⟩ := (b0.fe (((((w0.trans w1).trans w2).trans w3).trans w4).trans w5)).kv
      exact ne_of_none hk hL
    obtain ⟨HL, hHL⟩ : ∃ X : Hp, X = upd (upd (upd (upd (upd (upd (upd H7 W0 (.tup [.str (⟨#[a]⟩ ++ ⟨#[b]⟩), .str (⟨#[b]⟩ ++ ⟨#[a]⟩)])) W1 (.tup [.str (⟨#[a]⟩ ++ ⟨#[b]⟩ ++ ⟨#[a]⟩), s1 b])) W2 (.tup [.str (⟨#[b]⟩ ++ ⟨#[b]⟩), .str ""])) W3 (.tup [.str "", .str (⟨#[a]⟩ ++ ⟨#[b]⟩)])) W4 (.tup [s1 b, .str (⟨#[a]⟩ ++ ⟨#[a]⟩ ++ ⟨#[b]⟩)])) W5 (.tup [.str (⟨#[a]⟩ ++ ⟨#[a]⟩), .str (⟨#[b]⟩ ++ ⟨#[b]⟩)])) L (.lst [.ref W0, .ref W1, .ref W2, .ref W3, .ref W4, .ref W5]) := ⟨_, rfl⟩
    have hLl : HL L = some (.lst [.ref W0, .ref W1, .ref W2, .ref W3, .ref W4, .ref W5]) := by rw [hHL]; exact upd_same
    rw [← hHL] at b1 hprs ⊢
    clear wall hHL w0 w1 w2 w3 w4 w5 wL hL hW0 hW1 hW2 hW3 hW4 hW5 b0
    refine ⟨L, rfl, ⟨_, SqL.of hLl⟩, for_lst (xs := [.ref W0, .ref W1, .ref W2, .ref W3, .ref W4, .ref W5]) (fun i σ' H' => ∃ o6 o7 : Option V, σ' = [some (.ref p), some (s1 a), some (s1 b), some (.int (1 + (r1 : Int))), some (.int (1 + (r2 : Int))), some (.ref D), o6, o7, none] ∧ BS p g H H' D [a, b] (6 + i) ∧ H' L = some (.lst [.ref W0, .ref W1, .ref W2, .ref W3, .ref W4, .ref W5]) ∧
      Al (rP rS rS) H' [.ref W0, .ref W1, .ref W2, .ref W3, .ref W4, .ref W5] [([a, b], [b, a]), ([a, b, a], [b]), ([b, b], []), ([], [a, b]), ([b], [a, a, b]), ([a, a], [b, b])]) ⟨_, _, rfl, b1, hLl, hprs⟩ (fun i σ' H' _ ⟨_, _, _, _, e, _⟩ => e) ?_ ?_⟩
    · rintro i x σ' H' hx ⟨o6, o7, rfl, bi, hLi, hpi⟩
      have hi6 : i < 6 := (List.getElem?_eq_some_iff.mp hx).1
      obtain ⟨⟨r, w⟩, hrw, hxr⟩ := hpi.get hx
      obtain ⟨u, x1, x2, rfl, hu2, rfl, rfl⟩ := id hxr
      have hmem := List.mem_of_getElem? hrw
      have hok : r.length ≤ 3 ∧ w.length ≤ 3 ∧ ∀ x ∈ r, x ∈ [a, b] := by
        simp only [List.mem_cons, List.not_mem_nil, or_false, Prod.mk.injEq] at hmem
        rcases hmem with ⟨rfl, rfl⟩ | ⟨rfl, rfl⟩ | ⟨rfl, rfl⟩ | ⟨rfl, rfl⟩ | ⟨rfl, rfl⟩ | ⟨rfl, rfl⟩ <;> simp
      refine ⟨u, _, rfl, SqT.of hu2, rfl, _, _, rfl, _, _, rfl, rfl, ?_⟩
      refine ⟨_, rfl, p, g, 3, rfl, bi.pl, by decide, by decide, fun r3 H8 f8 P8 _ => ⟨rfl, _, rfl, ?_⟩⟩
      have b2 := bi.f f8 P8
      have hL8 := f8.keep _ _ nL hLi
      have hp8 := Al.mo f8 hpi
      refine ite2 (fun _ => ?_) (fun _ => ⟨_, _, rfl, b2.wk (by omega), hL8, hp8⟩)
      refine ⟨_, rfl, p, g, 4, rfl, P8, by decide, by decide, fun c3 H9 f9 P9 _ => ⟨_, _, rfl, rfl, _, rfl, _, rfl, _, rfl, by show 2 ≤ sizeLine; decide, fun U3 hU3 => ?_⟩⟩
      have gU := Fe.new (o := .tup [.str ⟨r.toArray⟩, .str ⟨w.toArray⟩]) hU3
      have b3 := (b2.f f9 P9).fe gU
      obtain ⟨kvs', hp10, b11⟩ := b3.put2 (by omega) (r := r) (w := w) (by rw [upd_same]; rfl) (1 + c3) hok.1 hok.2.1 hok.2.2
      have hDt := b3.kv
      obtain ⟨kv0, hD0k, _⟩ := hDt
      have fD : Fx [D] _ _ := Fx.put (o := .dT kvs') hD0k (List.mem_singleton.mpr rfl) (fun _ z => nomatch z)
      refine ⟨D, _, rfl, by rw [← v1] at hp10; exact hp10, _, _, rfl, b11.wk (by omega), ?_, Al.mo fD (Al.mo gU (Al.mo f9 hp8))⟩
      rw [upd_ne hDL.symm]
      exact gU.k (f9.keep _ _ nL hL8)
    · rintro σ' H8 ⟨o6, o7, rfl, bi, hLi, hpi⟩
      have bi : BS p g H H8 D [a, b] 12 := bi
      obtain ⟨kvs, hDk, db, hkl⟩ := bi.kv
      refine ⟨_, rfl, _, rfl, _, _, rfl, rfl, sz2 a b, D, .dT kvs, hDk, trivial, fun od => ?_⟩
      have fL : Fx [p, g] H (upd H8 D (.frz od (.dT kvs))) := bi.fx.mu bi.nD
      have PL : Pl (upd H8 D (.frz od (.dT kvs))) p g := bi.pl.put bi.nD2
      have hlk : (upd H8 D (.frz od (.dT kvs))) D = some (.frz od (.dT kvs)) := upd_same
      generalize upd H8 D (.frz od (.dT kvs)) = HL at fL PL hlk
      refine ⟨_, rfl, D, od, rfl, .inr ⟨kvs, hlk, fun C hC => lc_by kvs.length (fun i H' => ∃ l : List (List Nat × List Nat × Nat), Cmp rEd HL C l H' ∧ l.length = i ∧ ∀ e ∈ l, e.1.length ≤ 3 ∧ e.2.1.length ≤ 3 ∧ ∀ x ∈ e.1, x ∈ [a, b]) ⟨[], Cmp.start hC, rfl, fun _ z => nomatch z⟩ (fun i H' hi ⟨l, c, _⟩ => ⟨c.fe.k hlk, hi⟩) (fun H' ⟨l, c, _⟩ => ⟨c.fe.k hlk, Nat.le_refl _⟩) ?_ ?_⟩⟩
      · rintro i xv H' H6 hi ⟨l, c, hll, hlo⟩ ⟨rfl, k, v, q, hkv, rfl, hq⟩
        obtain ⟨r1, w1, c1, hke, h1, h2, h3⟩ := db (k, v) (List.mem_of_getElem? hkv)
        have hk1 : k = eK r1 w1 := congrArg Prod.fst hke
        obtain ⟨v', hv1, hv2⟩ := valV_mem (List.mem_of_getElem? hkv)
        obtain ⟨r2, w2, c2, hke2, _⟩ := db (k, v') hv2
        have hv' : v' = vN c2 := congrArg Prod.snd hke2
        subst hk1 hv'
        refine ⟨rfl, _, rfl, _, rfl, _, rfl, D, vN c2, rfl, by rw [← hv1]; exact .inr ⟨kvs, _, q, .inr ⟨od, c.fe.k hlk⟩, rfl, hq, rfl⟩, by show 1 ≤ sizeLine; decide, fun T hT => ?_⟩
        have gT := Fe.new (o := .tup [vN c2]) hT
        refine ⟨q, T, _, _, rfl, rfl, SqT.of (gT.k hq), SqT.of upd_same, (fun z => nomatch z), by show 3 ≤ sizeLine; decide, (fun z => nomatch z), fun _ T2 hT2 => ?_⟩
        have gT2 := Fe.new (o := .tup ((eK r1 w1).map kV ++ [vN c2])) hT2
        obtain ⟨acc, a1, a2, a3⟩ := c.add (x := (r1, w1, c2)) (y := .ref T2) (by omega) (gT.trans gT2) ⟨T2, _, _, _, rfl, upd_same, rfl, rfl, rfl⟩
        refine ⟨acc, a1, a2, _, a3, by rw [List.length_append, List.length_singleton]; omega, fun e he => ?_⟩
        rcases List.mem_append.mp he with he | he
        · exact hlo e he
        · rw [List.mem_singleton.mp he]; exact ⟨h1, h2, h3⟩
      · rintro H6 ⟨l, c, hll, hlo⟩
        refine ⟨c.fe.k hlk, ?_⟩
        obtain ⟨_, vs0, eC, hCv, al⟩ := c.rl
        cases eC
        have nDC : D ≠ C := ne_of_none hlk hC
        have fD : Fx [D] H6 (upd H6 D (.dT kvs)) := Fx.put (c.fe.k hlk) (List.mem_singleton.mpr rfl) (fun _ z => nomatch z)
        have P7 : Pl (upd H6 D (.dT kvs)) p g := (PL.keep c.fe).put bi.nD2
        have f7 : Fx [p, g] H (upd H6 D (.dT kvs)) := (fL.trans c.fe.to).mu bi.nD
        have hC7 : (upd H6 D (.dT kvs)) C = some (.lst vs0) := by rw [upd_ne nDC.symm]; exact hCv
        have al7 := Al.mo fD al
        generalize upd H6 D (.dT kvs) = H7 at P7 f7 hC7 al7
        obtain ⟨ps, rfl, hpl, hps⟩ := tl_of edK (fun v x h => ed_key h) al7
        refine ⟨C, ps, [true, true, false], rfl, SqL.of hC7, fun pr hpr => ?_, by decide, fun ps' q hperm hq => ?_⟩
        · obtain ⟨e, _, e1, e2⟩ := hps pr hpr
          exact ⟨SqT.of e2, by rw [e1]; rfl⟩
        have gq := Fe.new (o := .lst (ps'.map fun q => V.ref q.1)) hq
        refine ⟨q, _, rfl, .inl ⟨SqL.of upd_same, fun u hu => ⟨by show 2 ≤ sizeLine; decide, fun Z hZ => ?_⟩⟩⟩
        have gu := Fe.new (o := .tup (ps'.map fun q => V.ref q.1)) hu
        have gZ := Fe.new (o := .tup [.str (⟨#[a]⟩ ++ ⟨#[b]⟩), .ref u]) hZ
        have g3 := (gq.trans gu).trans gZ
        obtain ⟨es, q1, q2, q3⟩ := tl_back (r := rEd) (H := upd (upd (upd H7 q (.lst (ps'.map fun q => V.ref q.1))) u (.tup (ps'.map fun q => V.ref q.1))) Z (.tup [.str (⟨#[a]⟩ ++ ⟨#[b]⟩), .ref u])) edK (fun a x h => ed_back h) l ps' fun pr hpr => by
          obtain ⟨e, h1, h2, h3⟩ := hps pr (hperm.mem_iff.mp hpr)
          exact ⟨e, h1, h2, g3.k h3⟩
        have hel : es.length ≤ 30 := by
          have := congrArg List.length q3
          rw [List.length_map, List.length_map, hperm.length_eq] at this
          omega
        refine kk _ es _ (f7.trans g3.to) (P7.keep g3) ⟨Z, _, _, rfl, upd_same, congrArg V.str (s2_ a b), ⟨u, _, rfl, gZ.k upd_same, q1⟩⟩ ⟨by show es.length ≤ 60; omega, fun e he => (hlo e (q2 e he)).1, fun e he => (hlo e (q2 e he)).2.1, fun e he => (hlo e (q2 e he)).2.2, by show 2 ≤ 100; decide⟩ hel
end
end Fm
namespace Fm
open PySem L2
/-- None, an int, a text -/
inductive Sc : V → Prop
  | non : Sc .non
  | int (i : Int) : Sc (.int i)
  | str (x : Str) : Sc (.str x)
def spSame : Sp := fun vs H Q _ => ∃ x y : V, vs = [x, y] ∧ Sc x ∧ Sc y ∧ Q (.bl (decide (x = y))) H
theorem sc_oV (o : Option Nat) : Sc (oV o) := by
  cases o with
  | none => exact .non
  | some c => exact .int _
theorem pss_never {X : Cx} {ss : List Stmt} : PSs X ss (fun _ _ _ => False) := ⟨fun _ _ _ _ _ _ h => h.elim⟩
def tyOf : V → Value
  | .non => .type "NoneType"
  | .int _ => .type "int"
  | _ => .type "str"
theorem Sc.ty {x : V} (h : Sc x) (K : PySem.W.Frag) (H : Hp) : TyX K H x (tyOf x) := by
  cases h with
  | non => exact .base .non
  | int i => exact .base (.int i)
  | str y => exact .base (.str y)
section
variable {P : Program} {w : World} {K : PySem.W.Frag} {g : Str → Option Value} {base : Heap}
theorem ok_law_same (T : Txt K g) : FnOk P w K g base CX0 1 T.d_law_same.f T.d_law_same.fd P_law_same spSame := by
  refine T.d_law_same.F.ok sc_law_same (fun vs H Q E h => ?_) (fun cdv A outer s H vs Q E hr h => ?_)
  · obtain ⟨_, _, rfl, _⟩ := h
    rfl
  · obtain ⟨x, y, rfl, hx, hy, kk⟩ := h
    have hu := hu_of hr
    refine ⟨_, (pss_cons (ps_if (pt_val (pe_callB call_isi (by rfl) T.z_isinstance (by decide +kernel) (pa_cons (pv 1) (pa_cons (pe_bltn (v := .ty "tuple") (by rfl) T.z_tuple (by decide +kernel) rfl) pa_nil))))
      pss_never
      pss_nil)
    (pss_cons (ps_if (pt_cmpR op_isN (pv 1) pe_non (nomark _))
      (pss_one (ps_ret (pe_cmpR op_isN (pv 0) pe_non (nomark _))))
      pss_nil)
    (pss_cons (ps_if (pt_val (pe_callB call_isi (by rfl) T.z_isinstance (by decide +kernel) (pa_cons (pv 1) (pa_cons (pe_bltn (v := .ty "int") (by rfl) T.z_int (by decide +kernel) rfl) pa_nil))))
      (pss_one (ps_ret (pe_and (pe_callB call_isi (by rfl) T.z_isinstance (by decide +kernel) (pa_cons (pv 0) (pa_cons (pe_bltn (v := .ty "int") (by rfl) T.z_int (by decide +kernel) rfl) pa_nil))) (pe_and (pe_not (pe_callB call_isi (by rfl) T.z_isinstance (by decide +kernel) (pa_cons (pv 0) (pa_cons (pe_bltn (v := .ty "bool") (by rfl) T.z_bool (by decide +kernel) rfl) pa_nil)))) (pe_one (pe_cmpR op_eq (pv 0) (pv 1) (nomark _)))))))
      pss_nil)
    (pss_one (ps_ret (pe_and (pe_callB call_isi (by rfl) T.z_isinstance (by decide +kernel) (pa_cons (pv 0) (pa_cons (pe_bltn (v := .ty "str") (by rfl) T.z_str (by decide +kernel) rfl) pa_nil))) (pe_and (pe_callB call_isi (by rfl) T.z_isinstance (by decide +kernel) (pa_cons (pv 1) (pa_cons (pe_bltn (v := .ty "str") (by rfl) T.z_str (by decide +kernel) rfl) pa_nil))) (pe_one (pe_cmpR op_eq (pv 0) (pv 1) (nomark _)))))))))), ?_⟩
    have nt : PySem.W.kitOne K (tyOf y) (.type "tuple") = some false := by
      cases hy <;> rfl
    refine ⟨_, rfl, _, _, _, _, _, rfl, .ty "tuple", hy.ty K H, nt, _, rfl, iteF ?_⟩
    refine ⟨_, rfl, rfl, _, rfl, ?_⟩
    have ti : ∀ {z : V}, Sc z → PySem.W.kitOne K (tyOf z) (.type "int") = some (match z with | .int _ => true | _ => false) := fun h => by cases h <;> rfl
    have tb : ∀ {z : V}, Sc z → PySem.W.kitOne K (tyOf z) (.type "bool") = some false := fun h => by cases h <;> rfl
    have ts : ∀ {z : V}, Sc z → PySem.W.kitOne K (tyOf z) (.type "str") = some (match z with | .str _ => true | _ => false) := fun h => by cases h <;> rfl
    cases hy with
    | non => exact iteT ⟨_, rfl, rfl, kk⟩
    | int i =>
      refine iteF ⟨_, rfl, _, _, _, _, _, rfl, .ty "int", (Sc.int i).ty K H, ti (.int i), _, rfl, iteT ?_⟩
      refine ⟨_, rfl, _, _, _, _, _, rfl, .ty "int", hx.ty K H, ti hx, _, rfl, ?_⟩
      cases hx with
      | non => exact iteF kk
      | str y => exact iteF kk
      | int j => exact iteT ⟨_, rfl, _, _, _, _, _, rfl, .ty "bool", (Sc.int j).ty K H, tb (.int j), _, rfl, _, rfl, iteT ⟨_, rfl, _, rfl, rfl, kk⟩⟩
    | str y =>
      refine iteF ⟨_, rfl, _, _, _, _, _, rfl, .ty "int", (Sc.str y).ty K H, ti (.str y), _, rfl, iteF ?_⟩
      refine ⟨_, rfl, _, _, _, _, _, rfl, .ty "str", hx.ty K H, ts hx, _, rfl, ?_⟩
      cases hx with
      | non => exact iteF kk
      | int j => exact iteF kk
      | str x => exact iteT ⟨_, rfl, _, _, _, _, _, rfl, .ty "str", (Sc.str y).ty K H, ts (.str y), _, rfl, iteT ⟨_, rfl, _, rfl, rfl, kk⟩⟩
end
end Fm
/-! the same data, tuples by depth -/
namespace Fm
open PySem L2
abbrev RSm := Hp → V → V → Prop
def spEq (R : RSm) : Sp := fun vs H Q _ => ∃ x y : V, vs = [x, y] ∧ R H x y ∧ ∀ H', Fe H H' → Q (.bl true) H'
def MoS (R : RSm) : Prop := ∀ H H' x y, Fe H H' → R H x y → R H' x y
def sSc : RSm := fun _ x y => Sc x ∧ x = y
def sTu (R : RSm) : RSm := fun H x y => ∃ a b xs ys, x = .ref a ∧ y = .ref b ∧ H a = some (.tup xs) ∧ H b = some (.tup ys) ∧ Paired (R H) xs ys
theorem mo_sc : MoS sSc := fun _ _ _ _ _ h => h
theorem mo_tu {R : RSm} (h : MoS R) : MoS (sTu R) := fun H H' x y f ⟨a, b, xs, ys, e1, e2, h1, h2, h3⟩ => ⟨a, b, xs, ys, e1, e2, f.k h1, f.k h2, L2.Paired.mapP h3 fun _ _ q => h _ _ _ _ f q⟩
section
variable {P : Program} {w : World} {K : PySem.W.Frag} {g : Str → Option Value} {base : Heap}
theorem same_ok0 (T : Txt K g) : FnOk P w K g base CX0 1 T.d_law_same.f T.d_law_same.fd P_law_same (spEq sSc) :=
  (ok_law_same T).imp fun vs H Q E ⟨x, y, e, ⟨h, e2⟩, k⟩ => ⟨x, y, e, h, e2 ▸ h, by
    rw [decide_eq_true e2]; exact k H (Fx.refl _ _)⟩
theorem same_step (T : Txt K g) {R : RSm} {k : Nat} (hR : MoS R) (ih : FnOk P w K g base CX0 k T.d_law_same.f T.d_law_same.fd P_law_same (spEq R)) : FnOk P w K g base CX0 (k + 1) T.d_law_same.f T.d_law_same.fd P_law_same (spEq (sTu R)) := by
  refine T.d_law_same.F.ok sc_law_same (fun vs H Q E h => ?_) (fun cdv A outer s H vs Q E hr h => ?_)
  · obtain ⟨_, _, rfl, _⟩ := h
    rfl
  · obtain ⟨x, y, rfl, ⟨a, b, xs, ys, rfl, rfl, ha, hb, hp⟩, kk⟩ := h
    have hu := hu_of hr
    refine ⟨_, (pss_cons (ps_if (pt_val (pe_callB call_isi (by rfl) T.z_isinstance (by decide +kernel) (pa_cons (pv 1) (pa_cons (pe_bltn (v := .ty "tuple") (by rfl) T.z_tuple (by decide +kernel) rfl) pa_nil))))
      (pss_cons (ps_if (PW.pt (pw_or (pt_not (pt_val (pe_callB call_isi (by rfl) T.z_isinstance (by decide +kernel) (pa_cons (pv 0) (pa_cons (pe_bltn (v := .ty "tuple") (by rfl) T.z_tuple (by decide +kernel) rfl) pa_nil))))) (pw_or1 (pt_cmpR op_ne (pe_callB (kc_len (K := K) rfl) (by rfl) T.z_len PySem.boot_len (pa_cons (pv 0) pa_nil)) (pe_callB (kc_len (K := K) rfl) (by rfl) T.z_len PySem.boot_len (pa_cons (pv 1) pa_nil)) (nomark _)))))
        (pss_one (ps_ret pe_bl))
        pss_nil)
      (pss_cons (ps_for PassesOwn.never rfl (ki_zipA (K := K) rfl rfl T.z_zip (pa_cons (pv 0) (pa_cons (pv 1) pa_nil))) (kg_tup (K := K) 2 rfl rfl (pgs_cons (pg_name (i := 2) sc_law_same.nd rfl (by first | exact Or.inl rfl | exact Or.inr rfl)) (pgs_cons (pg_name (i := 3) sc_law_same.nd rfl (by first | exact Or.inl rfl | exact Or.inr rfl)) pgs_nil)))
        (pss_one (ps_if (pt_not (pt_val (pe_call ih (hr.mono (Nat.le_refl _)) rfl T.d_law_same.mg T.d_law_same.kp T.d_law_same.b .nil pass0 (pa_cons (pv 2) (pa_cons (pv 3) pa_nil)))))
          (pss_one (ps_ret pe_bl))
          pss_nil)))
      (pss_one (ps_ret pe_bl))))
      pss_nil)
    (pss_cons (ps_if (pt_cmpR op_isN (pv 1) pe_non (nomark _))
      (pss_one (ps_ret (pe_cmpR op_isN (pv 0) pe_non (nomark _))))
      pss_nil)
    (pss_cons (ps_if (pt_val (pe_callB call_isi (by rfl) T.z_isinstance (by decide +kernel) (pa_cons (pv 1) (pa_cons (pe_bltn (v := .ty "int") (by rfl) T.z_int (by decide +kernel) rfl) pa_nil))))
      (pss_one (ps_ret (pe_and (pe_callB call_isi (by rfl) T.z_isinstance (by decide +kernel) (pa_cons (pv 0) (pa_cons (pe_bltn (v := .ty "int") (by rfl) T.z_int (by decide +kernel) rfl) pa_nil))) (pe_and (pe_not (pe_callB call_isi (by rfl) T.z_isinstance (by decide +kernel) (pa_cons (pv 0) (pa_cons (pe_bltn (v := .ty "bool") (by rfl) T.z_bool (by decide +kernel) rfl) pa_nil)))) (pe_one (pe_cmpR op_eq (pv 0) (pv 1) (nomark _)))))))
      pss_nil)
    (pss_one (ps_ret (pe_and (pe_callB call_isi (by rfl) T.z_isinstance (by decide +kernel) (pa_cons (pv 0) (pa_cons (pe_bltn (v := .ty "str") (by rfl) T.z_str (by decide +kernel) rfl) pa_nil))) (pe_and (pe_callB call_isi (by rfl) T.z_isinstance (by decide +kernel) (pa_cons (pv 1) (pa_cons (pe_bltn (v := .ty "str") (by rfl) T.z_str (by decide +kernel) rfl) pa_nil))) (pe_one (pe_cmpR op_eq (pv 0) (pv 1) (nomark _)))))))))), ?_⟩
    have hlen := hp.length
    have tt : PySem.W.kitOne K (.type "tuple") (.type "tuple") = some true := rfl
    refine ⟨_, rfl, _, _, _, _, _, rfl, .ty "tuple", .base (.tup hb), tt, _, rfl, iteT ?_⟩
    refine ⟨_, rfl, _, _, _, _, _, rfl, .ty "tuple", .base (.tup ha), tt, _, rfl, iteF ?_⟩
    refine ⟨_, rfl, a, _, rfl, .inr (SqT.of ha), _, rfl, b, _, rfl, .inr (SqT.of hb), rfl, _, rfl, ?_⟩
    have el : decide (V.int ((xs.length : Nat) : Int) = V.int ((ys.length : Nat) : Int)) = true := by rw [hlen]; exact decide_eq_true rfl
    rw [el]
    refine iteF ⟨_, rfl, _, rfl, a, b, xs, ys, rfl, .inr ⟨SqT.of ha, SqT.of hb, RZ.for_zipT hlen (fun i σ' H' => ∃ o2 o3, σ' = [some (.ref a), some (.ref b), o2, o3] ∧ Fe H H') ⟨none, none, rfl, Fx.refl _ _⟩ (fun i σ' H' ⟨_, _, _, e⟩ => ⟨SqT.of (e.k ha), SqT.of (e.k hb)⟩) ?_ ?_⟩⟩
    · rintro i x y U σ' H' hx hy ⟨o2, o3, rfl, e⟩ hU
      obtain ⟨y', hy', hxy⟩ := Al.get hp hx
      rw [hy] at hy'
      cases hy'
      have e2 := e.trans (Fe.new (o := .tup [x, y]) hU)
      refine ⟨U, _, rfl, SqT.of upd_same, rfl, _, _, rfl, _, _, rfl, rfl, ?_⟩
      exact ⟨_, rfl, _, rfl, x, y, rfl, hR _ _ _ _ e2 hxy, fun H2 e3 => ⟨_, rfl, iteF ⟨_, _, rfl, e2.trans e3⟩⟩⟩
    · rintro σ' H' ⟨o2, o3, rfl, e⟩
      exact kk H' e
theorem fn_or {k : Nat} {f : Addr} {fd : FuncData} {ps : List Str} {s1 s2 : Sp} (F1 : FnOk P w K g base CX0 k f fd ps s1) (F2 : FnOk P w K g base CX0 k f fd ps s2) : FnOk P w K g base CX0 k f fd ps (fun vs H Q E => s1 vs H Q E ∨ s2 vs H Q E) :=
  ⟨fun vs H Q E h => h.elim (F1.len vs H Q E) (F2.len vs H Q E), fun A outer s H args us vs Q E hr he hb hv hs => hs.elim (F1.run A outer s H args us vs Q E hr he hb hv) (F2.run A outer s H args us vs Q E hr he hb hv)⟩
/-- scalars, tuples of them, tuples of these -/
abbrev spEq3 : Sp := fun vs H Q E => spEq sSc vs H Q E ∨ (fun vs H Q E => spEq (sTu sSc) vs H Q E ∨ spEq (sTu (sTu sSc)) vs H Q E) vs H Q E
theorem same_all (T : Txt K g) : FnOk P w K g base CX0 3 T.d_law_same.f T.d_law_same.fd P_law_same spEq3 :=
  fn_or ((same_ok0 T).mono (by decide)) (fn_or ((same_step T mo_sc (same_ok0 T)).mono (by decide)) (same_step T (mo_tu mo_sc) (same_step T mo_sc (same_ok0 T))))
end
theorem same_r3 {H : Hp} {v w : V} {x : T3} (h : r3 H v x) (k : r3 H w x) : sTu sSc H v w := by
  obtain ⟨u, a1, a2, a3, rfl, hu, rfl, rfl, rfl⟩ := h
  obtain ⟨u', b1, b2, b3, rfl, hu', rfl, rfl, rfl⟩ := k
  exact ⟨u, u', _, _, rfl, rfl, hu, hu', .cons ⟨.int _, rfl⟩ (.cons ⟨.int _, rfl⟩ (.cons ⟨.int _, rfl⟩ .nil))⟩
theorem same_al {H : Hp} {xs ys : List V} {l : List T3} (h : Al r3 H xs l) : Al r3 H ys l → Paired (sTu sSc H) xs ys := by
  induction h generalizing ys with
  | nil => intro k; cases k; exact .nil
  | cons h _ ih =>
    intro k
    cases k with
    | cons k1 k2 => exact .cons (same_r3 h k1) (ih k2)
end Fm
/-! a letter, some times over; a pair out of a list -/
namespace Fm
open PySem PySem.Spec PyProof.Rows L2
theorem appR {α : Type} {l a b : List α} (h : a = b) : l ++ a = l ++ b := h ▸ rfl
theorem kg_unl {X : Cx} {K : PySem.W.Frag} {es : List Expr} {tgs : TGs} {k : Nat} {pos : Pos} (n : Nat) (h : X.K = K) (hc : X.calm = true) (hs : PGs X es tgs) (hn : (assignEach es X.env).length = n := by rfl) (hst : (assignEach es X.env).findIdx? (·.1) = none := by rfl) :
    PG X (.Tuple es k pos) (gUnl K n tgs) := by
  subst h
  exact pg_unl hc hs hn hst
def rRepC : R2 := fun x y H Q => ∃ (c k : Nat), x = .str ⟨#[c]⟩ ∧ y = .int (k : Int) ∧ k ≤ 1000000 ∧ Q (.str ⟨(List.replicate k c).toArray⟩) H
theorem str_of_list {x : Str} {l : List Nat} (h : x.cps.toList = l) : x = ⟨l.toArray⟩ := by
  cases x
  subst h
  simp
theorem op_repC {X : Cx} : OpR X (binaryOp .Mult) rRepC := by
  intro pins s σ H x y v u Q I rx ry h
  obtain ⟨c, k, rfl, rfl, hk, q⟩ := h
  obtain ⟨t, rfl⟩ := rx
  obtain ⟨t', rfl⟩ := ry
  have e : Txt.mul ⟨#[c]⟩ (k : Int) = ⟨(List.replicate k c).toArray⟩ := str_of_list (by rw [mul_one_list, Int.toNat_natCast])
  have ok : MulOk ⟨#[c]⟩ (k : Int) := by
    refine ⟨?_, fun h1 h2 => ?_, fun h1 h2 => ?_⟩
    · rw [Bool.or_eq_false_iff]
      exact ⟨decide_eq_false (by omega), decide_eq_false (by omega)⟩
    · show ¬ ((1 : Int) > (2 ^ 63 - 1) / (k : Int))
      have : (1 : Int) ≤ (2 ^ 63 - 1) / (k : Int) := by
        rw [Int.le_ediv_iff_mul_le (by omega)]
        omega
      omega
    · show PySem.Builtin.Str.tooLong (1 * ((k : Nat) : Int).toNat) = false
      rw [Int.toNat_natCast, Nat.one_mul]
      unfold PySem.Builtin.Str.tooLong
      exact decide_eq_false (by rw [sizeLine_eq]; omega)
  refine SB.mul ok fun t2 tk => ?_
  rw [e]
  exact ⟨.str ⟨(List.replicate k c).toArray⟩, H, I.tok _, ⟨t2, rfl⟩, q⟩
end Fm
namespace Fm
open PySem L2
theorem pcs_cap (b : Book) (m : Mach) (t : List Nat) (c n : Nat) : pcs b m t (some c) n = (pcs b m t none n).filter fun x => decide (x.2.2 ≤ c) := by
  induction n with
  | zero => rfl
  | succ n ih =>
    rw [pcs_succ, pcs_succ, List.filter_append, ih]
    refine appR ?_
    unfold pc1
    cases least (PcE b m t n) with
    | none => rfl
    | some e =>
      show (if decide (dC t.length e ≤ c) = true then _ else _ : Option T3).toList = _
      show _ = List.filter _ [(dB t.length e, n, dC t.length e)]
      rw [List.filter_cons]
      by_cases q : dC t.length e ≤ c
      · rw [if_pos (decide_eq_true q), if_pos (decide_eq_true q)]; rfl
      · rw [if_neg (fun z => q (of_decide_eq_true z)), if_neg (fun z => q (of_decide_eq_true z))]; rfl
theorem v1p (r : Nat) : V.int (1 + (r : Int)) = vN (1 + r) := by show _ = V.int _; rw [Int.natCast_add]; rfl
def spAsked : Sp := fun vs H Q _ => ∃ (p g : Addr) (b : Book) (m : Mach) (t : List Nat) (v1 v2 : V), vs = [.ref p, v1, v2, .str ⟨t.toArray⟩] ∧ Pl H p g ∧ rBook H v1 b ∧ rMach H v2 m ∧ POk b m ∧ MSm m ∧ t.length ≤ 60 ∧ (∀ x ∈ t, x ∈ b.1) ∧ ∀ H', Fx [p, g] H H' → Pl H' p g → Q (.bl true) H'
section
variable {P : Program} {w : World} {K : PySem.W.Frag} {g : Str → Option Value} {base : Heap}
theorem ok_law_asked (T : Txt K g) : FnOk P w K g base CX0 9 T.d_law_asked.f T.d_law_asked.fd P_law_asked spAsked := by
  refine T.d_law_asked.F.ok sc_law_asked (fun vs H Q E h => ?_) (fun cdv A outer s H vs Q E hr h => ?_)
  · obtain ⟨_, _, _, _, _, _, _, rfl, _⟩ := h
    rfl
  · obtain ⟨p, g, b, m, t, v1, v2, rfl, hP, hb, hm, pok, msm, ht, htl, kk⟩ := h
    have hu := hu_of hr
    refine ⟨_, (pss_cons (ps_set (i := 4) sc_law_asked.nd rfl (by first | exact Or.inl rfl | exact Or.inr rfl) (pe_call (ok_law_pieces T) (hr.mono (by decide)) rfl T.d_law_pieces.mg T.d_law_pieces.kp T.d_law_pieces.b .nil pass0 (pa_cons (pv 1) (pa_cons (pv 2) (pa_cons (pv 3) pa_nil)))))
    (pss_cons (ps_for PassesOwn.never rfl (ki_tup (K := K) rfl (pe_tup (pa_cons pe_int (pa_cons (pe_op op_add pe_int (pe_call (ok_law_draw T) (hr.mono (by decide)) rfl T.d_law_draw.mg T.d_law_draw.kp T.d_law_draw.b .nil pass0 (pa_cons (pv 0) (pa_cons pe_int pa_nil)))) pa_nil)))) (pg_name (i := 5) sc_law_asked.nd rfl (by first | exact Or.inl rfl | exact Or.inr rfl))
      (pss_cons (ps_set (i := 6) sc_law_asked.nd rfl (by first | exact Or.inl rfl | exact Or.inr rfl) (pe_callTy (kc_tuple (K := K) rfl) (by rfl) T.z_tuple (by decide +kernel) (pa_cons (pe_callB (kc_sortT3 (K := K) rfl) (by rfl) T.z_sorted (by decide +kernel) (pa_cons (pe_lc (own := [("piece", 8)]) rfl sc_law_asked.nd (ki_list (K := K) rfl (pv 4)) (blkOk_by (N := N_law_asked) (sc := defScope s_law_asked) (by decide +kernel)) (fun _ _ _ _ _ => by exact (pg_name (i := 8) sc_law_asked.nd rfl (by first | exact Or.inl rfl | exact Or.inr rfl))) (fun _ _ _ _ _ => by exact pts_one (pt_cmpR op_le (pe_ix (kx_tup (K := K) rfl) (pv 8) pe_int (fun _ _ => rfl)) (pv 5) (nomark _))) (fun _ _ _ _ _ => by exact (pv 8))) pa_nil)) pa_nil)))
      (pss_one (ps_if (pt_not (pt_val (pe_call (same_all T) (hr.mono (by decide)) rfl T.d_law_same.mg T.d_law_same.kp T.d_law_same.b .nil pass0 (pa_cons (pe_call (ok_found_pieces T) (hr.mono (by decide)) rfl T.d_found_pieces.mg T.d_found_pieces.kp T.d_found_pieces.b .nil pass0 (pa_cons (pv 1) (pa_cons (pv 2) (pa_cons (pv 3) (pa_cons (pv 5) pa_nil))))) (pa_cons (pv 6) pa_nil)))))
        (pss_one (ps_ret pe_bl))
        pss_nil))))
    (pss_cons (ps_if (pt_cmpR op_eq (pe_callB (kc_len (K := K) rfl) (by rfl) T.z_len PySem.boot_len (pa_cons (pv 4) pa_nil)) pe_int (nomark _))
      (pss_one (ps_ret (pe_cmpR op_isN (pe_call (ok_best_piece T) (hr.mono (by decide)) rfl T.d_best_piece.mg T.d_best_piece.kp T.d_best_piece.b .nil pass0 (pa_cons (pv 1) (pa_cons (pv 2) (pa_cons (pv 3) pa_nil)))) pe_non (nomark _))))
      pss_nil)
    (pss_cons (ps_set (i := 7) sc_law_asked.nd rfl (by first | exact Or.inl rfl | exact Or.inr rfl) (pe_callB (kc_minT (K := K) rfl rfl hr.units) (by rfl) T.z_min (by decide +kernel) (pa_cons (pe_lc (own := [("begin", 9), ("end", 10), ("cost", 11)]) rfl sc_law_asked.nd (ki_list (K := K) rfl (pv 4)) (blkOk_by (N := N_law_asked) (sc := defScope s_law_asked) (by decide +kernel)) (fun _ _ _ _ _ => by exact (kg_tup (K := K) 3 rfl rfl (pgs_cons (pg_name (i := 9) sc_law_asked.nd rfl (by first | exact Or.inl rfl | exact Or.inr rfl)) (pgs_cons (pg_name (i := 10) sc_law_asked.nd rfl (by first | exact Or.inl rfl | exact Or.inr rfl)) (pgs_cons (pg_name (i := 11) sc_law_asked.nd rfl (by first | exact Or.inl rfl | exact Or.inr rfl)) pgs_nil))))) (fun _ _ _ _ _ => by exact pts_nil) (fun _ _ _ _ _ => by exact (pe_tup (pa_cons (pv 11) (pa_cons (pe_op op_sub (pv 9) (pv 10)) (pa_cons (pv 9) (pa_cons (pv 10) pa_nil))))))) pa_nil)))
    (pss_one (ps_ret (pe_call (same_all T) (hr.mono (by decide)) rfl T.d_law_same.mg T.d_law_same.kp T.d_law_same.b .nil pass0 (pa_cons (pe_call (ok_best_piece T) (hr.mono (by decide)) rfl T.d_best_piece.mg T.d_best_piece.kp T.d_best_piece.b .nil pass0 (pa_cons (pv 1) (pa_cons (pv 2) (pa_cons (pv 3) pa_nil)))) (pa_cons (pe_tup (pa_cons (pe_ix (kx_tup (K := K) rfl) (pv 7) pe_int (fun _ _ => rfl)) (pa_cons (pe_ix (kx_tup (K := K) rfl) (pv 7) pe_int (fun _ _ => rfl)) (pa_cons (pe_ix (kx_tup (K := K) rfl) (pv 7) pe_int (fun _ _ => rfl)) pa_nil)))) pa_nil))))))))), ?_⟩
    refine ⟨_, rfl, _, rfl, _, rfl, b, m, t, v1, v2, rfl, hb, hm, pok, msm, ht, fun H1 a xs e1 haN ha hal => ?_⟩
    have nap := hP.nw haN
    have P1 := hP.keep e1
    have hpl := pcs_len b m t none (t.length + 1)
    refine ⟨_, rfl, p, g, 5, rfl, P1, by decide, by decide, fun r H2 f2 P2 hr5 => ⟨_, _, rfl, rfl, by show 2 ≤ sizeLine; decide, fun U hU => ?_⟩⟩
    have fU := Fe.new (o := .tup [.int 0, .int (1 + (r : Int))]) hU
    have f3 := (e1.to.trans f2).trans fU.to
    have P3 := P2.keep fU
    have ha3 := fU.k (f2.keep _ _ nap ha)
    have hal3 := Al.mo (f2.trans fU.to) hal
    refine ⟨U, rfl, ⟨_, SqT.of upd_same⟩, for_tup (xs := [.int 0, .int (1 + (r : Int))]) (fun i σ' H' => ∃ o5 o6, σ' = [some (.ref p), some v1, some v2, some (.str ⟨t.toArray⟩), some (.ref a), o5, o6, none, none, none, none, none] ∧ Fe (upd H2 U (.tup [.int 0, .int (1 + (r : Int))])) H')
      ⟨none, none, rfl, Fx.refl _ _⟩ (fun i σ' H' hi ⟨_, _, _, e⟩ => SqT.of (e.k upd_same)) ?_ ?_⟩
    · rintro i x σ' H3 hx ⟨o5, o6, rfl, e⟩
      obtain ⟨c, rfl⟩ : ∃ c : Nat, x = vN c := by
        rcases i with _ | _ | i
        · cases hx; exact ⟨0, rfl⟩
        · cases hx; exact ⟨1 + r, v1p r⟩
        · cases hx
      clear hx
      have f03 := f3.trans e.to
      have P4 := P3.keep e
      have ha4 := e.k ha3
      have hal4 := Al.me e hal3
      -- due
      refine ⟨_, rfl, a, rfl, ⟨_, SqL.of ha4⟩, fun D hD => lc_list (xs := xs) (fun j H' => Cmp r3 H3 D (((pcs b m t none (t.length + 1)).take j).filter fun x => decide (x.2.2 ≤ c)) H') (Cmp.start hD) (fun j H' hj c => SqL.of (c.fe.k ha4)) (fun j x H' hx cc => ?_) (fun H4 cc => ?_)⟩
      · obtain ⟨y, hy, hyr⟩ := hal4.get hx
        have htk : (((pcs b m t none (t.length + 1)).take (j + 1)).filter fun x => decide (x.2.2 ≤ c)) = (((pcs b m t none (t.length + 1)).take j).filter fun x => decide (x.2.2 ≤ c)) ++ (if y.2.2 ≤ c then [y] else []) := by
          rw [List.take_add_one, hy, List.filter_append]
          refine appR ?_
          show List.filter _ [y] = _
          rw [List.filter_cons]
          by_cases q : y.2.2 ≤ c
          · rw [if_pos (decide_eq_true q), if_pos q]; rfl
          · rw [if_neg (fun z => q (of_decide_eq_true z)), if_neg q]; rfl
        rw [htk]
        have hyr' := Me.go hyr cc.fe
        obtain ⟨u, w1, w2, w3, rfl, hu1, rfl, rfl, rfl⟩ := id hyr'
        have hlen : (((pcs b m t none (t.length + 1)).take j).filter fun x => decide (x.2.2 ≤ c)).length < 1000000 := by
          have h1 := List.length_filter_le (fun x : T3 => decide (x.2.2 ≤ c)) ((pcs b m t none (t.length + 1)).take j)
          have h2 := List.length_take_le' j (pcs b m t none (t.length + 1))
          omega
        refine ⟨rfl, _, rfl, u, _, _, _, rfl, rfl, SqT.of hu1, rfl, _, rfl, _, _, rfl, rfl, _, rfl, ?_⟩
        by_cases q : y.2.2 ≤ c
        · rw [decide_eq_true (show (y.2.2 : Int) ≤ (c : Int) by omega), if_pos q]
          exact iteT ⟨_, rfl, cc.add hlen (Fx.refl _ _) hyr'⟩
        · rw [decide_eq_false (show ¬ (y.2.2 : Int) ≤ (c : Int) by omega), if_neg q, List.append_nil]
          exact iteF cc
      · rw [hal4.len, List.take_length, ← pcs_cap] at cc
        obtain ⟨ds, hD4, hdal⟩ := cc.ex
        have hpl2 := pcs_len b m t (some c) (t.length + 1)
        show rSort3 K [.ref D] H4 _
        refine sort3_by (SqL.of hD4) hdal (by omega) fun ys l' p0 hal' hpm hpw hp0n => ?_
        refine ⟨p0, _, rfl, .inl ⟨SqL.of upd_same, fun T0 hT0 => ?_⟩⟩
        have f1 := Fe.new (o := .lst ys) hp0n
        have f2' := f1.trans (Fe.new (o := .tup ys) hT0)
        have e4 := (e.trans cc.fe).trans f2'
        have f04 := f3.trans e4.to
        have P5 := P3.keep e4
        have hTy : (upd (upd H4 p0 (.lst ys)) T0 (.tup ys)) T0 = some (.tup ys) := upd_same
        have halY := Al.me f2' hal'
        clear f1 f2' hal' hp0n hT0 cc hD4 hdal P4 ha4 hal4 f03
        generalize upd (upd H4 p0 (.lst ys)) T0 (.tup ys) = H5 at e4 f04 P5 hTy halY ⊢
        refine ⟨_, rfl, _, rfl, _, rfl, _, rfl, b, m, t, some c, v1, v2, rfl, Mo.mo (r := rBook) f04 hb, Mo.mo (r := rMach) f04 hm, pok, htl, ht, fun H6 T6 ys6 l6 e6 hT6 hal6 hpm6 hpw6 => ?_⟩
        have hll : l6 = l' := srt3_eq (hpm6.trans hpm.symm) hpw6 hpw
        subst hll
        refine ⟨_, rfl, .inr (.inr ⟨.ref T6, .ref T0, rfl, ⟨T6, T0, _, _, rfl, rfl, hT6, e6.k hTy, same_al hal6 (Al.me e6 halY)⟩, fun H7 e7 => ⟨_, rfl, iteF ⟨_, _, rfl, (e4.trans e6).trans e7⟩⟩⟩)⟩
    · rintro σ' H3 ⟨o5, o6, rfl, e⟩
      have f03 := f3.trans e.to
      have P4 := P3.keep e
      have ha4 := e.k ha3
      have hal4 := Al.me e hal3
      have hb4 := Mo.mo (r := rBook) f03 hb
      have hm4 := Mo.mo (r := rMach) f03 hm
      refine ⟨_, rfl, a, _, rfl, .inl (SqL.of ha4), rfl, _, rfl, ?_⟩
      by_cases hne : pcs b m t none (t.length + 1) = []
      · have hx0 : xs = [] := by
          rw [hne] at hal4
          cases hal4; rfl
        subst hx0
        rw [show decide (V.int ((([] : List V).length : Nat) : Int) = V.int 0) = true from rfl]
        refine iteT ⟨_, rfl, _, rfl, _, rfl, b, m, t, v1, v2, rfl, hb4, hm4, pok, htl, ht, fun _ H5 e5 => ?_, fun H5 T5 x5 e5 hT5 hbest => ?_⟩
        · exact ⟨rfl, kk H5 (f03.trans e5.to) (P4.keep e5)⟩
        · have := hbest.1
          rw [hne] at this
          exact nomatch this
      · have hx0 : ¬ (xs.length = 0) := fun z => hne (by
          have := hal4.len
          rw [z] at this
          exact List.eq_nil_of_length_eq_zero this.symm)
        rw [show decide (V.int ((xs.length : Nat) : Int) = V.int 0) = false from decide_eq_false (fun z => by injection z with z; omega)]
        refine iteF ?_
        refine ⟨_, rfl, a, rfl, ⟨_, SqL.of ha4⟩, fun D hD => lc_list (xs := xs) (fun j H' => Cmp (rKy k4) H3 D ((pcs b m t none (t.length + 1)).take j) H') (Cmp.start hD) (fun j H' hj c => SqL.of (c.fe.k ha4)) (fun j x H' hx c => ?_) (fun H4 c => ?_)⟩
        · obtain ⟨x3, hx3, hxr⟩ := (Al.me c.fe hal4).get hx
          obtain ⟨u, w1, w2, w3, rfl, hu1, rfl, rfl, rfl⟩ := id hxr
          have htk : (pcs b m t none (t.length + 1)).take (j + 1) = (pcs b m t none (t.length + 1)).take j ++ [x3] := by rw [List.take_add_one, hx3]; rfl
          have hl2 := List.length_take_le' j (pcs b m t none (t.length + 1))
          rw [htk]
          refine ⟨u, _, rfl, SqT.of hu1, rfl, _, _, rfl, _, _, rfl, _, _, rfl, rfl, rfl, iteT (B := Cmp (rKy k4) H3 D ((pcs b m t none (t.length + 1)).take j ++ [x3]) H') ⟨_, rfl, _, rfl, _, rfl, _, _, rfl, rfl, _, rfl, _, rfl, by show 4 ≤ sizeLine; decide, fun U hU => ?_⟩⟩
          exact c.add (by omega) (Fe.new hU) ⟨U, rfl, upd_same⟩
        · rw [hal4.len, List.take_length] at c
          obtain ⟨ps, hD4, hpal⟩ := c.ex
          obtain ⟨ts, hts, ht1, ht2, ht3⟩ := min_ky (K := K) hpal hne
          refine ⟨D, ts, rfl, by rw [← hts]; exact SqL.of hD4, ht1, ht2, fun tt htt hmm => ?_⟩
          obtain ⟨x, hx, hxm, hxu⟩ := ht3 tt htt hmm
          obtain ⟨u, uu⟩ := tt
          have e4 := e.trans c.fe
          have f04 := f3.trans e4.to
          have P5 := P3.keep e4
          refine ⟨_, rfl, _, rfl, _, rfl, b, m, t, v1, v2, rfl, Mo.mo (r := rBook) f04 hb, Mo.mo (r := rMach) f04 hm, pok, htl, ht, fun z => absurd z hne, fun H5 T5 x5 e5 hT5 hbest => ?_⟩
          have hxx : x5 = x := best_eq hbest ⟨hx, hxm⟩
          subst hxx
          have hu5 := e5.k hxu
          refine ⟨_, rfl, u, _, _, _, rfl, rfl, SqT.of hu5, rfl, _, rfl, u, _, _, _, rfl, rfl, SqT.of hu5, rfl, _, rfl, u, _, _, _, rfl, rfl, SqT.of hu5, rfl, by show 3 ≤ sizeLine; decide, fun Z hZ => ?_⟩
          have fZ := Fe.new (o := .tup [vN x5.1, vN x5.2.1, vN x5.2.2]) hZ
          refine .inr (.inl ⟨.ref T5, .ref Z, rfl, same_r3 (x := x5) ⟨T5, _, _, _, rfl, fZ.k hT5, rfl, rfl, rfl⟩ ⟨Z, _, _, _, rfl, upd_same, rfl, rfl, rfl⟩, fun H7 e7 => ?_⟩)
          have e57 := (e5.trans fZ).trans e7
          exact kk H7 (f04.trans e57.to) (P5.keep e57)
end
end Fm
/-! the word in the text -/
namespace Fm
open PySem L2
def wordM (a b : Nat) : Mach := (4, [3], [(0, a, 1), (1, b, 2), (2, b, 3)])
def dropB (a b : Nat) : Book := ([a, b], [([a], [], 1), ([b], [], 1)])
def ttext (a b gap : Nat) : List Nat := List.replicate gap a ++ [a, b, b, a, a, b, a, b]
theorem rs_free {b : Book} {m : Mach} (hc : ∀ e ∈ b.2, 1 ≤ e.2.2) {u : List Nat} {s : Stg} {c : Nat} (h : Rs b m u s c) : c = 0 → s.2 = [] ∧ Lead (Em m) u 0 s.1 := by
  induction h with
  | beg => exact fun _ => ⟨rfl, rfl⟩
  | @sil t s s' c d _ mv _ =>
    intro e
    obtain ⟨_, _, wr, h3, _⟩ := mv
    have : 1 ≤ d := hc _ h3
    omega
  | @rea t s s' c d x _ mv ih =>
    intro e
    obtain ⟨i1, i2⟩ := ih (by omega)
    rcases mv with ⟨r, h1, _, _⟩ | ⟨h1, h2, h3, _⟩ | ⟨h1, rd, wr, h2, h3, h4⟩
    · rw [h1] at i1; cases i1
    · exact ⟨h2, Lead.snoc.mpr ⟨_, i2, h3⟩⟩
    · have : 1 ≤ d := hc _ h2
      omega
section
variable {a b : Nat}
theorem word_lead {u : List Nat} (h : Lead (Em (wordM a b)) u 0 3) : u = [a, b, b] := by
  cases u with
  | nil => cases h
  | cons x1 u =>
    obtain ⟨r, h1, h⟩ := h
    have h1 : (0, x1, r) ∈ (wordM a b).2.2 := h1
    simp only [wordM, List.mem_cons, List.not_mem_nil, or_false, Prod.mk.injEq] at h1
    rcases h1 with ⟨_, rfl, rfl⟩ | ⟨z, _⟩ | ⟨z, _⟩
    · cases u with
      | nil => cases h
      | cons x2 u =>
        obtain ⟨r, h1, h⟩ := h
        have h1 : (1, x2, r) ∈ (wordM x1 b).2.2 := h1
        simp only [wordM, List.mem_cons, List.not_mem_nil, or_false, Prod.mk.injEq] at h1
        rcases h1 with ⟨z, _⟩ | ⟨_, rfl, rfl⟩ | ⟨z, _⟩
        · cases z
        · cases u with
          | nil => cases h
          | cons x3 u =>
            obtain ⟨r, h1, h⟩ := h
            have h1 : (2, x3, r) ∈ (wordM x1 x2).2.2 := h1
            simp only [wordM, List.mem_cons, List.not_mem_nil, or_false, Prod.mk.injEq] at h1
            rcases h1 with ⟨z, _⟩ | ⟨z, _⟩ | ⟨_, rfl, rfl⟩
            · cases z
            · cases z
            · cases u with
              | nil => rfl
              | cons x4 u =>
                obtain ⟨r, h1, h⟩ := h
                have h1 : (3, x4, r) ∈ (wordM x1 x3).2.2 := h1
                simp [wordM] at h1
        · cases z
    · cases z
    · cases z
def patB (gap : Nat) : List Bool := List.replicate gap false ++ [false, true, true, false, false, true, false, true]
theorem ttext_pat (gap : Nat) : ttext a b gap = (patB gap).map fun i => if i then b else a := by
  unfold ttext patB
  rw [List.map_append, List.map_replicate]
  rfl
theorem map_inj' {α β : Type} {f : α → β} (hf : ∀ x y, f x = f y → x = y) : ∀ {l l' : List α}, l.map f = l'.map f → l = l'
  | [], [], _ => rfl
  | [], _ :: _, h => nomatch h
  | _ :: _, [], h => nomatch h
  | x :: l, y :: l', h => by
    rw [List.map_cons, List.map_cons] at h
    injection h with h1 h2
    rw [hf _ _ h1, map_inj' hf h2]
theorem pat_dec : ∀ gap < 3, ∀ p < 12, ∀ k < 12, ((patB gap).take p).drop k = [false, true, true] → k = gap ∧ p = gap + 3 := by decide +kernel
theorem ttext_len (gap : Nat) : (ttext a b gap).length = gap + 8 := by
  unfold ttext
  rw [List.length_append, List.length_replicate]; rfl
theorem word_at (hab : a ≠ b) {gap p k : Nat} (hg : gap < 3) (hp : p ≤ (ttext a b gap).length) (hk : k ≤ p) : ((ttext a b gap).take p).drop k = [a, b, b] ↔ k = gap ∧ p = gap + 3 := by
  rw [ttext_len] at hp
  constructor
  · intro h
    rw [ttext_pat, ← List.map_take, ← List.map_drop] at h
    have e : [a, b, b] = [false, true, true].map fun i => if i then b else a := rfl
    rw [e] at h
    refine pat_dec gap hg p (by omega) k (by omega) (map_inj' ?_ h)
    intro x y h
    cases x <;> cases y <;> first | rfl | exact absurd h hab | exact absurd h.symm hab
  · rintro ⟨rfl, rfl⟩
    rcases (by omega : k = 0 ∨ k = 1 ∨ k = 2) with rfl | rfl | rfl <;> rfl
theorem drop_free : ∀ e ∈ (dropB a b).2, 1 ≤ e.2.2 := fun e he => by
  simp only [dropB, List.mem_cons, List.not_mem_nil, or_false] at he
  rcases he with rfl | rfl <;> exact Nat.le_refl _
theorem word_rs : Rs (dropB a b) (wordM a b) [a, b, b] (3, []) 0 := by
  have s1 : Rs (dropB a b) (wordM a b) [a] (1, []) 0 := .rea (t := []) .beg (.inr (.inl ⟨rfl, rfl, by show (0, a, 1) ∈ _; simp [wordM], rfl⟩))
  have s2 : Rs (dropB a b) (wordM a b) [a, b] (2, []) 0 := .rea (t := [a]) s1 (.inr (.inl ⟨rfl, rfl, by show (1, b, 2) ∈ _; simp [wordM], rfl⟩))
  exact .rea (t := [a, b]) s2 (.inr (.inl ⟨rfl, rfl, by show (2, b, 3) ∈ _; simp [wordM], rfl⟩))
theorem least_mem {A : Nat → Prop} {x : Nat} (h : least A = some x) : A x := by
  have := least_is A
  rw [h] at this
  exact this.1
theorem word_pce (hab : a ≠ b) {gap p e : Nat} (hg : gap < 3) (hp : p ≤ (ttext a b gap).length) (h : PcE (dropB a b) (wordM a b) (ttext a b gap) p e) (h0 : dC (ttext a b gap).length e = 0) : p = gap + 3 ∧ e = cod (ttext a b gap).length 0 gap := by
  obtain ⟨k, c, q, h1, h2, h3, h4⟩ := h
  subst h4
  rw [dC_cod (by omega)] at h0
  subst h0
  have h2 : q = 3 := List.mem_singleton.mp h2
  subst h2
  have := word_lead (rs_free drop_free h3 rfl).2
  obtain ⟨e1, e2⟩ := (word_at hab hg hp h1).mp this
  subst e1
  exact ⟨e2, rfl⟩
theorem word_least (hab : a ≠ b) {gap : Nat} (hg : gap < 3) : least (PcE (dropB a b) (wordM a b) (ttext a b gap) (gap + 3)) = some (cod (ttext a b gap).length 0 gap) := by
  have hl := ttext_len (a := a) (b := b) gap
  refine least_eq (o := some _) ⟨⟨gap, 0, 3, by omega, List.mem_singleton.mpr rfl, ?_, rfl⟩, fun e he => ?_⟩
  · rw [(word_at hab hg (by omega) (by omega)).mpr ⟨rfl, rfl⟩]
    exact word_rs
  · by_cases h0 : dC (ttext a b gap).length e = 0
    · rw [(word_pce hab hg (by omega) he h0).2]
      exact Nat.le_refl _
    · have := cod_le (N := (ttext a b gap).length) (k := dB (ttext a b gap).length e) (j := gap) (Nat.pos_of_ne_zero h0)
      rwa [cod_d] at this
theorem fm_congr {α β : Type} {f g : α → Option β} : ∀ {l : List α}, (∀ x ∈ l, f x = g x) → l.filterMap f = l.filterMap g
  | [], _ => rfl
  | a :: l, h => by rw [List.filterMap_cons, List.filterMap_cons, h a List.mem_cons_self, fm_congr fun x hx => h x (List.mem_cons_of_mem _ hx)]
theorem fm_single {α : Type} (x : α) (k : Nat) : ∀ n, k < n → (List.range n).filterMap (fun p => if p = k then some x else none) = [x]
  | 0, h => nomatch h
  | n + 1, h => by
    rw [List.range_succ, List.filterMap_append]
    by_cases q : n = k
    · subst q
      have : (List.range n).filterMap (fun p => if p = n then some x else none) = [] := by
        rw [List.filterMap_eq_nil_iff]
        intro p hp
        exact if_neg (by have := List.mem_range.mp hp; omega)
      rw [this, List.nil_append, List.filterMap_cons, if_pos rfl]; rfl
    · rw [fm_single x k n (by omega)]
      show [x] ++ List.filterMap _ [n] = [x]
      rw [List.filterMap_cons, if_neg q]; rfl
theorem word_pcs (hab : a ≠ b) {gap : Nat} (hg : gap < 3) : pcs (dropB a b) (wordM a b) (ttext a b gap) (some 0) ((ttext a b gap).length + 1) = [(gap, gap + 3, 0)] := by
  have hl := ttext_len (a := a) (b := b) gap
  rw [← fm_single (gap, gap + 3, 0) (gap + 3) ((ttext a b gap).length + 1) (by omega)]
  unfold pcs
  refine fm_congr fun p hp => ?_
  have hp' : p ≤ (ttext a b gap).length := by have := List.mem_range.mp hp; omega
  unfold pc1
  by_cases q : p = gap + 3
  · subst q
    rw [word_least hab hg, if_pos rfl]
    simp only
    rw [dC_cod (by omega), dB_cod (by omega)]
    rfl
  · rw [if_neg q]
    cases e : least (PcE (dropB a b) (wordM a b) (ttext a b gap) p) with
    | none => rfl
    | some x =>
      simp only
      refine if_neg fun z => ?_
      have h0 : dC (ttext a b gap).length x ≤ 0 := of_decide_eq_true z
      exact q (word_pce hab hg hp' (least_mem e) (by omega)).1
theorem word_best (hab : a ≠ b) {gap : Nat} (hg : gap < 3) : Best (pcs (dropB a b) (wordM a b) (ttext a b gap) none ((ttext a b gap).length + 1)) (gap, gap + 3, 0) := by
  have h := word_pcs hab hg
  rw [pcs_cap] at h
  have hm : ∀ y, y ∈ pcs (dropB a b) (wordM a b) (ttext a b gap) none ((ttext a b gap).length + 1) → y.2.2 ≤ 0 → y = (gap, gap + 3, 0) := fun y hy h0 => by
    have := List.mem_filter (p := fun x : T3 => decide (x.2.2 ≤ 0)) |>.mpr ⟨hy, decide_eq_true h0⟩
    rw [h] at this
    exact List.mem_singleton.mp this
  refine ⟨(List.mem_filter.mp (by rw [h]; exact List.mem_singleton.mpr rfl)).1, fun y hy => ?_⟩
  by_cases h0 : y.2.2 ≤ 0
  · rw [hm y hy h0]
    exact lex_irr _
  · unfold k4
    rw [HT.lexLt_cons, if_neg (by simp only; omega)]
    exact decide_eq_false (by simp only; omega)
theorem none_pcs {b' : Book} {m : Mach} (h : m.2.1 = []) (t : List Nat) (cap : Option Nat) (n : Nat) : pcs b' m t cap n = [] := by
  unfold pcs
  rw [List.filterMap_eq_nil_iff]
  intro p _
  have : least (PcE b' m t p) = none := least_eq (o := none) fun e ⟨k, c, q, h1, h2, _⟩ => by rw [h] at h2; exact nomatch h2
  unfold pc1
  rw [this]
end
end Fm
namespace Fm
open PySem L2
def spMade : Sp := fun vs H Q _ => ∃ (p g : Addr), vs = [.ref p] ∧ Pl H p g ∧ ∀ H', Fx [p, g] H H' → Pl H' p g → Q (.bl true) H'
theorem pok_lit {ls : List Nat} {es : List (List Nat × List Nat × Nat)} {n : Nat} {ends : List Nat} {st : List (Nat × Nat × Nat)} (h1 : ls.Nodup)
    (h2 : (decide (0 < n) && decide (n ≤ 60) && ends.all (fun q => decide (q < n)) && st.all (fun s => decide (s.1 < n) && decide (s.2.2 < n)) && decide (st.length ≤ 50) && decide (es.length ≤ 30) && es.all (fun e => decide (e.1.length ≤ 3) && decide (e.2.1.length ≤ 3)) && decide (ls.length ≤ 100)) = true)
    (h3 : ∀ e ∈ es, ∀ c ∈ e.1, c ∈ ls) (h4 : ∀ s ∈ st, s.2.1 ∈ ls) : POk (ls, es) (n, ends, st) := by
  simp only [Bool.and_eq_true, decide_eq_true_eq, List.all_eq_true] at h2
  obtain ⟨⟨⟨⟨⟨⟨⟨a1, a2⟩, a3⟩, a4⟩, a5⟩, a6⟩, a7⟩, a8⟩ := h2
  have w1 : es.length ≤ 60 := by omega
  have w2 : n ≤ 1000 := by omega
  have w3 : st.length ≤ 100 := by omega
  exact ⟨⟨w1, fun e he => (a7 e he).1, fun e he => (a7 e he).2, h3, a8⟩, ⟨a1, w2, a3, a4, w3⟩, a2, h1, h4, a6⟩
section
variable {P : Program} {w : World} {K : PySem.W.Frag} {g : Str → Option Value} {base : Heap}
theorem ok_law_made (T : Txt K g) : FnOk P w K g base CX0 10 T.d_law_made.f T.d_law_made.fd P_law_made spMade := by
  refine T.d_law_made.F.ok sc_law_made (fun vs H Q E h => ?_) (fun cdv A outer s H vs Q E hr h => ?_)
  · obtain ⟨_, _, rfl, _⟩ := h
    rfl
  · obtain ⟨p, g, rfl, hP, kk⟩ := h
    have hu := hu_of hr
    refine ⟨_, (pss_cons (ps_asg (pe_call (ok_law_pair T) (hr.mono (by decide)) rfl T.d_law_pair.mg T.d_law_pair.kp T.d_law_pair.b .nil pass0 (pa_cons (pv 0) pa_nil)) (kg_unl (K := K) 2 rfl rfl (pgs_cons (pg_name (i := 1) sc_law_made.nd rfl (by first | exact Or.inl rfl | exact Or.inr rfl)) (pgs_cons (pg_name (i := 2) sc_law_made.nd rfl (by first | exact Or.inl rfl | exact Or.inr rfl)) pgs_nil))))
    (pss_cons (ps_set (i := 3) sc_law_made.nd rfl (by first | exact Or.inl rfl | exact Or.inr rfl) (pe_tup (pa_cons pe_int (pa_cons (pe_tup (pa_cons pe_int pa_nil)) (pa_cons (pe_tup (pa_cons (pe_tup (pa_cons pe_int (pa_cons (pv 1) (pa_cons pe_int pa_nil)))) (pa_cons (pe_tup (pa_cons pe_int (pa_cons (pv 2) (pa_cons pe_int pa_nil)))) (pa_cons (pe_tup (pa_cons pe_int (pa_cons (pv 2) (pa_cons pe_int pa_nil)))) pa_nil)))) pa_nil)))))
    (pss_cons (ps_set (i := 4) sc_law_made.nd rfl (by first | exact Or.inl rfl | exact Or.inr rfl) (pe_tup (pa_cons (pe_op op_add_str (pv 1) (pv 2)) (pa_cons (pe_tup (pa_cons (pe_tup (pa_cons (pv 1) (pa_cons pe_str (pa_cons pe_int pa_nil)))) (pa_cons (pe_tup (pa_cons (pv 2) (pa_cons pe_str (pa_cons pe_int pa_nil)))) pa_nil))) pa_nil))))
    (pss_cons (ps_set (i := 5) sc_law_made.nd rfl (by first | exact Or.inl rfl | exact Or.inr rfl) (pe_call (ok_law_draw T) (hr.mono (by decide)) rfl T.d_law_draw.mg T.d_law_draw.kp T.d_law_draw.b .nil pass0 (pa_cons (pv 0) (pa_cons pe_int pa_nil))))
    (pss_cons (ps_set (i := 6) sc_law_made.nd rfl (by first | exact Or.inl rfl | exact Or.inr rfl) (pe_op op_add_str (pe_op op_add_str (pe_op op_add_str (pe_op op_add_str (pe_op op_add_str (pe_op op_add_str (pe_op op_add_str (pe_op op_add_str (pe_op op_repC (pv 1) (pv 5)) (pv 1)) (pv 2)) (pv 2)) (pv 1)) (pv 1)) (pv 2)) (pv 1)) (pv 2)))
    (pss_cons (ps_set (i := 7) sc_law_made.nd rfl (by first | exact Or.inl rfl | exact Or.inr rfl) (pe_callTy (kc_tuple (K := K) rfl) (by rfl) T.z_tuple (by decide +kernel) (pa_cons (pe_callB (kc_sortT3 (K := K) rfl) (by rfl) T.z_sorted (by decide +kernel) (pa_cons (pe_lst (pa_cons (pe_tup (pa_cons (pv 5) (pa_cons (pe_op op_add (pv 5) pe_int) (pa_cons pe_int pa_nil)))) pa_nil)) pa_nil)) pa_nil)))
    (pss_cons (ps_if (PW.pt (pw_or (pt_not (pt_val (pe_call (same_all T) (hr.mono (by decide)) rfl T.d_law_same.mg T.d_law_same.kp T.d_law_same.b .nil pass0 (pa_cons (pe_call (ok_found_pieces T) (hr.mono (by decide)) rfl T.d_found_pieces.mg T.d_found_pieces.kp T.d_found_pieces.b .nil pass0 (pa_cons (pv 4) (pa_cons (pv 3) (pa_cons (pv 6) (pa_cons pe_int pa_nil))))) (pa_cons (pv 7) pa_nil))))) (pw_or1 (pt_not (pt_val (pe_call (same_all T) (hr.mono (by decide)) rfl T.d_law_same.mg T.d_law_same.kp T.d_law_same.b .nil pass0 (pa_cons (pe_call (ok_best_piece T) (hr.mono (by decide)) rfl T.d_best_piece.mg T.d_best_piece.kp T.d_best_piece.b .nil pass0 (pa_cons (pv 4) (pa_cons (pv 3) (pa_cons (pv 6) pa_nil)))) (pa_cons (pe_tup (pa_cons (pv 5) (pa_cons (pe_op op_add (pv 5) pe_int) (pa_cons pe_int pa_nil)))) pa_nil))))))))
      (pss_one (ps_ret pe_bl))
      pss_nil)
    (pss_cons (ps_if (PW.pt (pw_or (pt_not (pt_val (pe_call (ok_law_asked T) (hr.mono (by decide)) rfl T.d_law_asked.mg T.d_law_asked.kp T.d_law_asked.b .nil pass0 (pa_cons (pv 0) (pa_cons (pv 4) (pa_cons (pv 3) (pa_cons (pv 6) pa_nil))))))) (pw_or1 (pt_not (pt_val (pe_call (ok_law_asked T) (hr.mono (by decide)) rfl T.d_law_asked.mg T.d_law_asked.kp T.d_law_asked.b .nil pass0 (pa_cons (pv 0) (pa_cons (pv 4) (pa_cons (pv 3) (pa_cons (pe_op op_add_str (pe_op op_add_str (pv 1) (pv 2)) (pv 1)) pa_nil))))))))))
      (pss_one (ps_ret pe_bl))
      pss_nil)
    (pss_cons (ps_set (i := 8) sc_law_made.nd rfl (by first | exact Or.inl rfl | exact Or.inr rfl) (pe_tup (pa_cons pe_int (pa_cons (pe_tup pa_nil) (pa_cons (pe_tup (pa_cons (pe_tup (pa_cons pe_int (pa_cons (pv 1) (pa_cons pe_int pa_nil)))) pa_nil)) pa_nil)))))
    (pss_cons (ps_if (PW.pt (pw_or (pt_not (pt_val (pe_call (same_all T) (hr.mono (by decide)) rfl T.d_law_same.mg T.d_law_same.kp T.d_law_same.b .nil pass0 (pa_cons (pe_call (ok_found_pieces T) (hr.mono (by decide)) rfl T.d_found_pieces.mg T.d_found_pieces.kp T.d_found_pieces.b .nil pass0 (pa_cons (pv 4) (pa_cons (pv 8) (pa_cons (pv 6) (pa_cons pe_int pa_nil))))) (pa_cons (pe_tup pa_nil) pa_nil))))) (pw_or1 (pt_cmpR op_notN (pe_call (ok_best_piece T) (hr.mono (by decide)) rfl T.d_best_piece.mg T.d_best_piece.kp T.d_best_piece.b .nil pass0 (pa_cons (pv 4) (pa_cons (pv 8) (pa_cons (pv 6) pa_nil)))) pe_non (nomark _)))))
      (pss_one (ps_ret pe_bl))
      pss_nil)
    (pss_one (ps_ret (pe_call (ok_law_asked T) (hr.mono (by decide)) rfl T.d_law_asked.mg T.d_law_asked.kp T.d_law_asked.b .nil pass0 (pa_cons (pv 0) (pa_cons (pv 4) (pa_cons (pe_tup (pa_cons pe_int (pa_cons (pe_tup (pa_cons pe_int (pa_cons pe_int pa_nil))) (pa_cons (pe_tup (pa_cons (pe_tup (pa_cons pe_int (pa_cons (pv 2) (pa_cons pe_int pa_nil)))) pa_nil)) pa_nil)))) (pa_cons (pe_call (ok_law_text T) (hr.mono (by decide)) rfl T.d_law_text.mg T.d_law_text.kp T.d_law_text.b .nil pass0 (pa_cons (pv 0) (pa_cons (pe_op op_add_str (pv 1) (pv 2)) (pa_cons pe_int pa_nil)))) pa_nil))))))))))))))))), ?_⟩
    refine ⟨_, rfl, p, g, rfl, hP, fun q a b H1 f1 P1 hq hab => ⟨q, _, rfl, SqL.of hq, rfl, _, _, rfl, _, _, rfl, rfl, ?_⟩⟩
    refine ⟨by show 1 ≤ sizeLine; decide, fun wt1 wh1 => ?_⟩
    have wg1 := Fe.new (o := .tup [.int 3]) wh1
    refine ⟨_, rfl, by show 3 ≤ sizeLine; decide, fun wt2 wh2 => ?_⟩
    have wg2 := Fe.new (o := .tup [.int 0, s1 a, .int 1]) wh2
    refine ⟨_, rfl, by show 3 ≤ sizeLine; decide, fun wt3 wh3 => ?_⟩
    have wg3 := Fe.new (o := .tup [.int 1, s1 b, .int 2]) wh3
    refine ⟨_, rfl, by show 3 ≤ sizeLine; decide, fun wt4 wh4 => ?_⟩
    have wg4 := Fe.new (o := .tup [.int 2, s1 b, .int 3]) wh4
    refine ⟨by show 3 ≤ sizeLine; decide, fun wt5 wh5 => ?_⟩
    have wg5 := Fe.new (o := .tup [.ref wt2, .ref wt3, .ref wt4]) wh5
    refine ⟨by show 3 ≤ sizeLine; decide, fun wt6 wh6 => ?_⟩
    have wg6 := Fe.new (o := .tup [.int 4, .ref wt1, .ref wt5]) wh6
    have ws5 := wg6
    have ws4 := wg5.trans ws5
    have ws3 := wg4.trans ws4
    have ws2 := wg3.trans ws3
    have ws1 := wg2.trans ws2
    have wG := wg1.trans ws1
    have wM : rMach _ (.ref wt6) (wordM a b) := ⟨wt6, _, _, _, rfl, (upd_same (o := .tup [.int 4, .ref wt1, .ref wt5])), rfl, ⟨wt1, _, rfl, ws1.k upd_same, (.cons rfl .nil)⟩, ⟨wt5, _, rfl, ws5.k upd_same, (.cons ⟨wt2, _, _, _, rfl, ws2.k upd_same, rfl, rfl, rfl⟩ (.cons ⟨wt3, _, _, _, rfl, ws3.k upd_same, rfl, rfl, rfl⟩ (.cons ⟨wt4, _, _, _, rfl, ws4.k upd_same, rfl, rfl, rfl⟩ .nil)))⟩⟩
    clear wh1 wh2 wh3 wh4 wh5 wh6 wg1 wg2 wg3 wg4 wg5 wg6 ws1 ws2 ws3 ws4 ws5
    generalize (upd (upd (upd (upd (upd (upd H1 wt1 (.tup [.int 3])) wt2 (.tup [.int 0, s1 a, .int 1])) wt3 (.tup [.int 1, s1 b, .int 2])) wt4 (.tup [.int 2, s1 b, .int 3])) wt5 (.tup [.ref wt2, .ref wt3, .ref wt4])) wt6 (.tup [.int 4, .ref wt1, .ref wt5])) = wH at wG wM ⊢
    refine ⟨_, rfl, _, rfl, _, _, rfl, rfl, sz2 _ _, _, rfl, by show 3 ≤ sizeLine; decide, fun kt1 kh1 => ?_⟩
    have kg1 := Fe.new (o := .tup [s1 a, .str "", .int 1]) kh1
    refine ⟨_, rfl, by show 3 ≤ sizeLine; decide, fun kt2 kh2 => ?_⟩
    have kg2 := Fe.new (o := .tup [s1 b, .str "", .int 1]) kh2
    refine ⟨by show 2 ≤ sizeLine; decide, fun kt3 kh3 => ?_⟩
    have kg3 := Fe.new (o := .tup [.ref kt1, .ref kt2]) kh3
    refine ⟨by show 2 ≤ sizeLine; decide, fun kt4 kh4 => ?_⟩
    have kg4 := Fe.new (o := .tup [.str (⟨#[a]⟩ ++ ⟨#[b]⟩), .ref kt3]) kh4
    have ks3 := kg4
    have ks2 := kg3.trans ks3
    have ks1 := kg2.trans ks2
    have kG := kg1.trans ks1
    have kM : rBook _ (.ref kt4) (dropB a b) := ⟨kt4, _, _, rfl, (upd_same (o := .tup [.str (⟨#[a]⟩ ++ ⟨#[b]⟩), .ref kt3])), (congrArg V.str (s2_ a b)), ⟨kt3, _, rfl, ks3.k upd_same, (.cons ⟨kt1, _, _, _, rfl, ks1.k upd_same, rfl, (congrArg V.str str_nil), rfl⟩ (.cons ⟨kt2, _, _, _, rfl, ks2.k upd_same, rfl, (congrArg V.str str_nil), rfl⟩ .nil))⟩⟩
    clear kh1 kh2 kh3 kh4 kg1 kg2 kg3 kg4 ks1 ks2 ks3
    generalize (upd (upd (upd (upd wH kt1 (.tup [s1 a, .str "", .int 1])) kt2 (.tup [s1 b, .str "", .int 1])) kt3 (.tup [.ref kt1, .ref kt2])) kt4 (.tup [.str (⟨#[a]⟩ ++ ⟨#[b]⟩), .ref kt3])) = kH at kG kM ⊢
    have P2 := (P1.keep wG).keep kG
    have f2 := (f1.trans wG.to).trans kG.to
    have wM2 := Mo.mo (r := rMach) kG wM
    refine ⟨_, rfl, p, g, 3, rfl, P2, by decide, by decide, fun gap H2 f3 P3 hgap => ?_⟩
    -- text
    have hsz : ∀ (l : List Nat) (c : Nat), l.length ≤ 100 → (⟨l.toArray⟩ : Str).length + (⟨#[c]⟩ : Str).length ≤ sizeLine := fun l c h => by
      rw [slen, sizeLine_eq]; show l.length + 1 ≤ _; omega
    have hrep : (List.replicate gap a).length = gap := List.length_replicate
    refine ⟨_, rfl, _, rfl, a, gap, rfl, rfl, by omega, ?_⟩
    have e1 := str_app (List.replicate gap a) a
    have e2 := str_app (List.replicate gap a ++ [a]) b
    have e3 := str_app (List.replicate gap a ++ [a] ++ [b]) b
    have e4 := str_app (List.replicate gap a ++ [a] ++ [b] ++ [b]) a
    have e5 := str_app (List.replicate gap a ++ [a] ++ [b] ++ [b] ++ [a]) a
    have e6 := str_app (List.replicate gap a ++ [a] ++ [b] ++ [b] ++ [a] ++ [a]) b
    have e7 := str_app (List.replicate gap a ++ [a] ++ [b] ++ [b] ++ [a] ++ [a] ++ [b]) a
    have e8 := str_app (List.replicate gap a ++ [a] ++ [b] ++ [b] ++ [a] ++ [a] ++ [b] ++ [a]) b
    have eL : List.replicate gap a ++ [a] ++ [b] ++ [b] ++ [a] ++ [a] ++ [b] ++ [a] ++ [b] = ttext a b gap := by
      unfold ttext
      simp only [List.append_assoc]
      rfl
    refine ⟨_, rfl, _, _, rfl, rfl, hsz _ a (by omega), ?_⟩
    refine ⟨_, rfl, _, _, rfl, rfl, by rw [← e1]; exact hsz _ b (by simp; omega), ?_⟩
    refine ⟨_, rfl, _, _, rfl, rfl, by rw [← e1, ← e2]; exact hsz _ b (by simp; omega), ?_⟩
    refine ⟨_, rfl, _, _, rfl, rfl, by rw [← e1, ← e2, ← e3]; exact hsz _ a (by simp; omega), ?_⟩
    refine ⟨_, rfl, _, _, rfl, rfl, by rw [← e1, ← e2, ← e3, ← e4]; exact hsz _ a (by simp; omega), ?_⟩
    refine ⟨_, rfl, _, _, rfl, rfl, by rw [← e1, ← e2, ← e3, ← e4, ← e5]; exact hsz _ b (by simp; omega), ?_⟩
    refine ⟨_, rfl, _, _, rfl, rfl, by rw [← e1, ← e2, ← e3, ← e4, ← e5, ← e6]; exact hsz _ a (by simp; omega), ?_⟩
    refine ⟨_, rfl, _, _, rfl, rfl, by rw [← e1, ← e2, ← e3, ← e4, ← e5, ← e6, ← e7]; exact hsz _ b (by simp; omega), ?_⟩
    have eT : (⟨(List.replicate gap a).toArray⟩ : Str) ++ ⟨#[a]⟩ ++ ⟨#[b]⟩ ++ ⟨#[b]⟩ ++ ⟨#[a]⟩ ++ ⟨#[a]⟩ ++ ⟨#[b]⟩ ++ ⟨#[a]⟩ ++ ⟨#[b]⟩ = ⟨(ttext a b gap).toArray⟩ := by
      rw [← e1, ← e2, ← e3, ← e4, ← e5, ← e6, ← e7, ← e8, eL]
    clear e1 e2 e3 e4 e5 e6 e7 e8 eL hrep
    generalize (⟨(List.replicate gap a).toArray⟩ : Str) ++ ⟨#[a]⟩ ++ ⟨#[b]⟩ ++ ⟨#[b]⟩ ++ ⟨#[a]⟩ ++ ⟨#[a]⟩ ++ ⟨#[b]⟩ ++ ⟨#[a]⟩ ++ ⟨#[b]⟩ = tS at eT ⊢
    subst eT
    have hl := ttext_len (a := a) (b := b) gap
    -- due
    refine ⟨_, rfl, _, rfl, _, _, rfl, rfl, by show 3 ≤ sizeLine; decide, fun D1 hD1 => ⟨by show 1 ≤ sizeLine; decide, fun D2 hD2 => ?_⟩⟩
    show rSort3 K [.ref D2] _ _
    have d1 := Fe.new (o := .tup [.int (gap : Int), .int ((gap : Int) + 3), .int 0]) hD1
    have d2 := Fe.new (o := .lst [.ref D1]) hD2
    have hr1 : r3 _ (.ref D1) (gap, gap + 3, 0) := ⟨D1, _, _, _, rfl, d2.k upd_same, rfl, (show V.int _ = V.int _ by rw [Int.natCast_add]; rfl), rfl⟩
    refine sort3_by (SqL.of upd_same) (l := [(gap, gap + 3, 0)]) (.cons hr1 .nil) (by show 1 < 64; decide) fun ys l' p0 hal hpm hpw hp0 => ?_
    have d3 := Fe.new (o := .lst ys) hp0
    refine ⟨p0, _, rfl, .inl ⟨SqL.of upd_same, fun D3 hD3 => ?_⟩⟩
    have d4 := Fe.new (o := .tup ys) hD3
    have hl' : l' = [(gap, gap + 3, 0)] := List.perm_singleton.mp hpm
    subst hl'
    have dd := (d1.trans d2).trans (d3.trans d4)
    have hal4 := Al.me (d3.trans d4) hal
    have hD4 : (upd (upd (upd (upd H2 D1 (.tup [.int (gap : Int), .int ((gap : Int) + 3), .int 0])) D2 (.lst [.ref D1])) p0 (.lst ys)) D3 (.tup ys)) D3 = some (.tup ys) := upd_same
    clear d1 d2 d3 d4 hD1 hD2 hp0 hD3 hal hr1
    generalize upd (upd (upd (upd H2 D1 (.tup [.int (gap : Int), .int ((gap : Int) + 3), .int 0])) D2 (.lst [.ref D1])) p0 (.lst ys)) D3 (.tup ys) = H3 at dd hal4 hD4 ⊢
    have f4 := (f2.trans f3).trans dd.to
    have P4 := P3.keep dd
    have wM4 := Mo.mo (r := rMach) (f3.trans dd.to) wM2
    have kM4 := Mo.mo (r := rBook) (f3.trans dd.to) kM
    have hnd : [a, b].Nodup := by simp [hab]
    have pok : POk (dropB a b) (wordM a b) := pok_lit hnd rfl (by simp) (by simp)
    have msm : MSm (wordM a b) := ⟨by show 4 + 3 < 60; decide, by show 1 + 3 < 60; decide⟩
    have htx : ∀ x ∈ ttext a b gap, x ∈ (dropB a b).1 := fun x hx => by
      unfold ttext at hx
      rcases List.mem_append.mp hx with hx | hx
      · rw [(List.mem_replicate.mp hx).2]; simp [dropB]
      · simp at hx
        simp [dropB]
        omega
    refine ⟨_, rfl, _, rfl, _, rfl, dropB a b, wordM a b, ttext a b gap, some 0, .ref kt4, .ref wt6, rfl, kM4, wM4, pok, htx, by omega, fun H5 T5 ys5 l5 e5 hT5 hal5 hpm5 _ => ?_⟩
    rw [word_pcs hab hgap] at hpm5
    have hl5 : l5 = [(gap, gap + 3, 0)] := List.perm_singleton.mp hpm5
    subst hl5
    refine ⟨_, rfl, .inr (.inr ⟨.ref T5, .ref D3, rfl, ⟨T5, D3, _, _, rfl, rfl, hT5, e5.k hD4, same_al hal5 (Al.me e5 hal4)⟩, fun H6 e6 => ⟨_, rfl, iteF ?_⟩⟩)⟩
    have e56 := e5.trans e6
    refine ⟨_, rfl, _, rfl, _, rfl, dropB a b, wordM a b, ttext a b gap, .ref kt4, .ref wt6, rfl, Me.go kM4 e56, Me.go wM4 e56, pok, htx, by omega, fun z => absurd (word_best hab hgap).1 (by rw [z]; exact fun z => nomatch z), fun H7 T7 x7 e7 hT7 hb7 => ?_⟩
    have hx7 := best_eq hb7 (word_best hab hgap)
    subst hx7
    refine ⟨_, rfl, _, rfl, _, _, rfl, rfl, by show 3 ≤ sizeLine; decide, fun D5 hD5 => ?_⟩
    have d5 := Fe.new (o := .tup [.int (gap : Int), .int ((gap : Int) + 3), .int 0]) hD5
    have hr5 : r3 (upd H7 D5 (.tup [.int (gap : Int), .int ((gap : Int) + 3), .int 0])) (.ref D5) (gap, gap + 3, 0) := ⟨D5, _, _, _, rfl, upd_same (o := .tup [.int (gap : Int), .int ((gap : Int) + 3), .int 0]), rfl, (show V.int _ = V.int _ by rw [Int.natCast_add]; rfl), rfl⟩
    refine .inr (.inl ⟨.ref T7, .ref D5, rfl, same_r3 (x := (gap, gap + 3, 0)) ⟨T7, _, _, _, rfl, d5.k hT7, rfl, rfl, rfl⟩ hr5, fun H8 e8 => ⟨_, rfl, iteF ?_⟩⟩)
    have e48 := e56.trans (e7.trans (d5.trans e8))
    have f8 := f4.trans e48.to
    have P8 := P4.keep e48
    have wM8 := Me.go wM4 e48
    have kM8 := Me.go kM4 e48
    clear e48 e56 e5 e6 e7 d5 e8 hT5 hal5 hT7 hr5 hal4 hD4 dd f4 P4 wM4 kM4 hb7 hD5 hpm5
    -- asked
    refine ⟨_, rfl, _, rfl, _, rfl, _, rfl, p, g, dropB a b, wordM a b, ttext a b gap, .ref kt4, .ref wt6, rfl, P8, kM8, wM8, pok, msm, by omega, htx, fun H9 f9 P9 => ⟨_, rfl, iteF ?_⟩⟩
    refine ⟨_, rfl, _, rfl, _, rfl, _, rfl, _, rfl, _, _, rfl, rfl, sz2 _ _, _, rfl, _, _, rfl, rfl, sz3 _ _ _, ?_⟩
    refine ⟨p, g, dropB a b, wordM a b, [a, b, a], .ref kt4, .ref wt6, by rw [← s3_]; rfl, P9, Mo.mo (r := rBook) f9 kM8, Mo.mo (r := rMach) f9 wM8, pok, msm, by show 3 ≤ 60; decide, by simp [dropB], fun HA fA PA => ⟨_, rfl, iteF ?_⟩⟩
    have f10 := f8.trans (f9.trans fA)
    have kMA := Mo.mo (r := rBook) (f9.trans fA) kM8
    clear f8 f9 P9 wM8 kM8 P8
    -- none
    refine ⟨Nat.zero_le _, fun nt1 nh1 => ?_⟩
    have ng1 := Fe.new (o := .tup []) nh1
    refine ⟨_, rfl, by show 3 ≤ sizeLine; decide, fun nt2 nh2 => ?_⟩
    have ng2 := Fe.new (o := .tup [.int 0, s1 a, .int 1]) nh2
    refine ⟨by show 1 ≤ sizeLine; decide, fun nt3 nh3 => ?_⟩
    have ng3 := Fe.new (o := .tup [.ref nt2]) nh3
    refine ⟨by show 3 ≤ sizeLine; decide, fun nt4 nh4 => ?_⟩
    have ng4 := Fe.new (o := .tup [.int 2, .ref nt1, .ref nt3]) nh4
    have ns3 := ng4
    have ns2 := ng3.trans ns3
    have ns1 := ng2.trans ns2
    have nG := ng1.trans ns1
    have nM : rMach _ (.ref nt4) (2, [], [(0, a, 1)]) := ⟨nt4, _, _, _, rfl, (upd_same (o := .tup [.int 2, .ref nt1, .ref nt3])), rfl, ⟨nt1, _, rfl, ns1.k upd_same, .nil⟩, ⟨nt3, _, rfl, ns3.k upd_same, (.cons ⟨nt2, _, _, _, rfl, ns2.k upd_same, rfl, rfl, rfl⟩ .nil)⟩⟩
    clear nh1 nh2 nh3 nh4 ng1 ng2 ng3 ng4 ns1 ns2 ns3
    generalize (upd (upd (upd (upd HA nt1 (.tup [])) nt2 (.tup [.int 0, s1 a, .int 1])) nt3 (.tup [.ref nt2])) nt4 (.tup [.int 2, .ref nt1, .ref nt3])) = nH at nG nM ⊢
    have kMn := Me.go kMA nG
    have fn := f10.trans (nG.to (M := [p, g]))
    have Pn := PA.keep nG
    have pokn : POk (dropB a b) (2, [], [(0, a, 1)]) := pok_lit hnd rfl (by simp) (by simp)
    clear kMA f10 PA nG
    refine ⟨_, rfl, _, rfl, _, rfl, dropB a b, _, ttext a b gap, some 3, .ref kt4, _, rfl, kMn, nM, pokn, htx, by omega, fun HB TB ysB lB eB hTB halB hpmB _ => ?_⟩
    rw [none_pcs rfl] at hpmB
    have hlB : lB = [] := List.perm_nil.mp hpmB
    subst hlB
    cases halB
    refine ⟨Nat.zero_le _, fun D6 hD6 => ?_⟩
    have d6 := Fe.new (o := .tup []) hD6
    refine .inr (.inr ⟨.ref TB, .ref D6, rfl, ⟨TB, D6, [], [], rfl, rfl, d6.k hTB, upd_same, .nil⟩, fun HC eC => ⟨_, rfl, iteF ?_⟩⟩)
    have eBC := eB.trans (d6.trans eC)
    refine ⟨_, rfl, _, rfl, _, rfl, dropB a b, _, ttext a b gap, .ref kt4, _, rfl, Me.go kMn eBC, Me.go nM eBC, pokn, htx, by omega, fun _ HD eD => ?_, fun HD TD xD eD hTD hbD => ?_⟩
    · refine ⟨rfl, _, rfl, iteF ?_⟩
      have eBD := eBC.trans eD
      have fD := fn.trans (eBD.to (M := [p, g]))
      have PD := Pn.keep eBD
      have kMD := Me.go kMn eBD
      clear eBC eBD eD eB d6 hD6 hTB fn Pn kMn nM
      refine ⟨_, rfl, _, rfl, ?_⟩
      refine ⟨by show 2 ≤ sizeLine; decide, fun zt1 zh1 => ?_⟩
      have zg1 := Fe.new (o := .tup [.int 0, .int 1]) zh1
      refine ⟨_, rfl, by show 3 ≤ sizeLine; decide, fun zt2 zh2 => ?_⟩
      have zg2 := Fe.new (o := .tup [.int 0, s1 b, .int 1]) zh2
      refine ⟨by show 1 ≤ sizeLine; decide, fun zt3 zh3 => ?_⟩
      have zg3 := Fe.new (o := .tup [.ref zt2]) zh3
      refine ⟨by show 3 ≤ sizeLine; decide, fun zt4 zh4 => ?_⟩
      have zg4 := Fe.new (o := .tup [.int 2, .ref zt1, .ref zt3]) zh4
      have zs3 := zg4
      have zs2 := zg3.trans zs3
      have zs1 := zg2.trans zs2
      have zG := zg1.trans zs1
      have zM : rMach _ (.ref zt4) (2, [0, 1], [(0, b, 1)]) := ⟨zt4, _, _, _, rfl, (upd_same (o := .tup [.int 2, .ref zt1, .ref zt3])), rfl, ⟨zt1, _, rfl, zs1.k upd_same, (.cons rfl (.cons rfl .nil))⟩, ⟨zt3, _, rfl, zs3.k upd_same, (.cons ⟨zt2, _, _, _, rfl, zs2.k upd_same, rfl, rfl, rfl⟩ .nil)⟩⟩
      clear zh1 zh2 zh3 zh4 zg1 zg2 zg3 zg4 zs1 zs2 zs3
      generalize (upd (upd (upd (upd HD zt1 (.tup [.int 0, .int 1])) zt2 (.tup [.int 0, s1 b, .int 1])) zt3 (.tup [.ref zt2])) zt4 (.tup [.int 2, .ref zt1, .ref zt3])) = zH at zG zM ⊢
      refine ⟨_, rfl, _, rfl, _, rfl, _, _, rfl, rfl, sz2 _ _, ?_⟩
      refine ⟨p, g, [a, b], 5, by rw [← s2_]; rfl, PD.keep zG, (fun z => nomatch z), by show 2 ≤ 1000; decide, by decide, fun t HE fE PE htE hlE => ?_⟩
      refine ⟨p, g, dropB a b, _, t, .ref kt4, _, rfl, PE, Mo.mo (r := rBook) fE (Me.go kMD zG), Mo.mo (r := rMach) fE zM, pok_lit hnd rfl (by simp) (by simp), ⟨by show 2 + 1 < 60; decide, by show 2 + 1 < 60; decide⟩, by omega, htE, fun HF fF PF => ?_⟩
      exact kk HF (fD.trans ((zG.to (M := [p, g])).trans (fE.trans fF))) PF
    · rw [none_pcs rfl] at hbD
      exact nomatch hbD.1
end
end Fm
namespace Fm
open PySem L2
def spLaw (K : PySem.W.Frag) : Sp := fun vs H Q _ => ∃ (a : Addr) (ns : List Int), vs = [.ref a] ∧ SqL K H a (ns.map V.int) ∧ ns.length ≤ 63 ∧ ∀ H', Q (.bl true) H'
/-- a book and a machine of the law's making -/
theorem pok_of {ls : List Nat} {es : List (List Nat × List Nat × Nat)} {m : Mach} (hb : BOk (ls, es)) (h30 : es.length ≤ 30) (nd : ls.Nodup) (mo : MOk m) (few : m.1 ≤ 20) (ms : ∀ s ∈ m.2.2, s.2.1 ∈ ls) : POk (ls, es) m := ⟨hb, mo, by omega, nd, ms, h30⟩
section
variable {P : Program} {w : World} {K : PySem.W.Frag} {g : Str → Option Value} {base : Heap}
theorem ok_law (T : Txt K g) : FnOk P w K g base CX0 11 T.d_law.f T.d_law.fd P_law (spLaw K) := by
  refine T.d_law.F.ok sc_law (fun vs H Q E h => ?_) (fun cdv A outer s H vs Q E hr h => ?_)
  · obtain ⟨_, _, rfl, _⟩ := h
    rfl
  · obtain ⟨sa, ns, rfl, hs, hlen, kk⟩ := h
    have hu := hu_of hr
    refine ⟨_, (pss_cons (ps_set (i := 1) sc_law.nd rfl (by first | exact Or.inl rfl | exact Or.inr rfl) (pe_call (ok_law_pool T) (hr.mono (by decide)) rfl T.d_law_pool.mg T.d_law_pool.kp T.d_law_pool.b .nil pass0 (pa_cons (pv 0) pa_nil)))
    (pss_cons (ps_if (pt_not (pt_val (pe_call (ok_law_made T) (hr.mono (by decide)) rfl T.d_law_made.mg T.d_law_made.kp T.d_law_made.b .nil pass0 (pa_cons (pv 1) pa_nil))))
      (pss_one (ps_ret pe_bl))
      pss_nil)
    (pss_cons (ps_for PassesOwn.never rfl (pi_range1 rfl T.z_range (pa_cons pe_int pa_nil)) (pg_name (i := 2) sc_law.nd rfl (by first | exact Or.inl rfl | exact Or.inr rfl))
      (pss_cons (ps_asg (pe_call (ok_law_pair T) (hr.mono (by decide)) rfl T.d_law_pair.mg T.d_law_pair.kp T.d_law_pair.b .nil pass0 (pa_cons (pv 1) pa_nil)) (kg_unl (K := K) 2 rfl rfl (pgs_cons (pg_name (i := 3) sc_law.nd rfl (by first | exact Or.inl rfl | exact Or.inr rfl)) (pgs_cons (pg_name (i := 4) sc_law.nd rfl (by first | exact Or.inl rfl | exact Or.inr rfl)) pgs_nil))))
      (pss_one (ps_if (pt_not (pt_val (pe_call (ok_law_asked T) (hr.mono (by decide)) rfl T.d_law_asked.mg T.d_law_asked.kp T.d_law_asked.b .nil pass0 (pa_cons (pv 1) (pa_cons (pe_call (ok_law_full T) (hr.mono (by decide)) rfl T.d_law_full.mg T.d_law_full.kp T.d_law_full.b .nil pass0 (pa_cons (pv 1) (pa_cons (pv 3) (pa_cons (pv 4) pa_nil)))) (pa_cons (pe_call (ok_law_house T) (hr.mono (by decide)) rfl T.d_law_house.mg T.d_law_house.kp T.d_law_house.b .nil pass0 (pa_cons (pv 1) (pa_cons (pv 3) (pa_cons (pv 4) pa_nil)))) (pa_cons (pe_call (ok_law_text T) (hr.mono (by decide)) rfl T.d_law_text.mg T.d_law_text.kp T.d_law_text.b .nil pass0 (pa_cons (pv 1) (pa_cons (pe_op op_add_str (pv 3) (pv 4)) (pa_cons pe_int pa_nil)))) pa_nil)))))))
        (pss_one (ps_ret pe_bl))
        pss_nil))))
    (pss_cons (ps_for PassesOwn.never rfl (pi_range1 rfl T.z_range (pa_cons pe_int pa_nil)) (pg_name (i := 2) sc_law.nd rfl (by first | exact Or.inl rfl | exact Or.inr rfl))
      (pss_cons (ps_set (i := 5) sc_law.nd rfl (by first | exact Or.inl rfl | exact Or.inr rfl) (pe_call (ok_law_letters T) (hr.mono (by decide)) rfl T.d_law_letters.mg T.d_law_letters.kp T.d_law_letters.b .nil pass0 (pa_cons (pv 1) (pa_cons pe_int pa_nil))))
      (pss_one (ps_if (pt_not (pt_val (pe_call (ok_law_asked T) (hr.mono (by decide)) rfl T.d_law_asked.mg T.d_law_asked.kp T.d_law_asked.b .nil pass0 (pa_cons (pv 1) (pa_cons (pe_call (ok_law_book T) (hr.mono (by decide)) rfl T.d_law_book.mg T.d_law_book.kp T.d_law_book.b .nil pass0 (pa_cons (pv 1) (pa_cons (pv 5) (pa_cons pe_int pa_nil)))) (pa_cons (pe_call (ok_law_machine T) (hr.mono (by decide)) rfl T.d_law_machine.mg T.d_law_machine.kp T.d_law_machine.b .nil pass0 (pa_cons (pv 1) (pa_cons (pv 5) (pa_cons pe_int pa_nil)))) (pa_cons (pe_call (ok_law_text T) (hr.mono (by decide)) rfl T.d_law_text.mg T.d_law_text.kp T.d_law_text.b .nil pass0 (pa_cons (pv 1) (pa_cons (pv 5) (pa_cons pe_int pa_nil)))) pa_nil)))))))
        (pss_one (ps_ret pe_bl))
        pss_nil))))
    (pss_cons (ps_if (pt_cmpR op_eq (pe_call (ok_law_draw T) (hr.mono (by decide)) rfl T.d_law_draw.mg T.d_law_draw.kp T.d_law_draw.b .nil pass0 (pa_cons (pv 1) (pa_cons pe_int pa_nil))) pe_int (nomark _))
      (pss_cons (ps_asg (pe_call (ok_law_pair T) (hr.mono (by decide)) rfl T.d_law_pair.mg T.d_law_pair.kp T.d_law_pair.b .nil pass0 (pa_cons (pv 1) pa_nil)) (kg_unl (K := K) 2 rfl rfl (pgs_cons (pg_name (i := 3) sc_law.nd rfl (by first | exact Or.inl rfl | exact Or.inr rfl)) (pgs_cons (pg_name (i := 4) sc_law.nd rfl (by first | exact Or.inl rfl | exact Or.inr rfl)) pgs_nil))))
      (pss_cons (ps_set (i := 6) sc_law.nd rfl (by first | exact Or.inl rfl | exact Or.inr rfl) pe_str)
      (pss_cons (ps_set (i := 7) sc_law.nd rfl (by first | exact Or.inl rfl | exact Or.inr rfl) (pe_op op_add pe_int (pe_call (ok_law_draw T) (hr.mono (by decide)) rfl T.d_law_draw.mg T.d_law_draw.kp T.d_law_draw.b .nil pass0 (pa_cons (pv 1) (pa_cons pe_int pa_nil)))))
      (pss_cons (ps_while PassesOwn.never (pt_cmpR op_lt (pe_callB kc_lenS (by rfl) T.z_len PySem.boot_len (pa_cons (pv 6) pa_nil)) (pv 7) (nomark _))
        (pss_one (ps_set (i := 6) sc_law.nd rfl (by first | exact Or.inl rfl | exact Or.inr rfl) (pe_op op_add_str (pv 6) (pe_ix (kx_list (K := K) rfl) (pe_lst (pa_cons (pe_op op_add_str (pv 3) (pv 4)) (pa_cons (pe_op op_add_str (pe_op op_add_str (pv 3) (pv 3)) (pv 4)) (pa_cons (pv 3) (pa_cons (pv 4) pa_nil))))) (pe_call (ok_law_draw T) (hr.mono (by decide)) rfl T.d_law_draw.mg T.d_law_draw.kp T.d_law_draw.b .nil pass0 (pa_cons (pv 1) (pa_cons pe_int pa_nil))) (fun _ _ => rfl))))))
      (pss_cons (ps_set (i := 8) sc_law.nd rfl (by first | exact Or.inl rfl | exact Or.inr rfl) (pe_tup (pa_cons (pe_op op_add_str (pv 3) (pv 4)) (pa_cons (pe_tup (pa_cons (pe_tup (pa_cons (pv 3) (pa_cons pe_str (pa_cons pe_int pa_nil)))) (pa_cons (pe_tup (pa_cons (pe_op op_add_str (pe_op op_add_str (pv 3) (pv 4)) (pv 3)) (pa_cons (pe_op op_add_str (pv 4) (pv 3)) (pa_cons pe_int pa_nil)))) (pa_cons (pe_tup (pa_cons (pv 4) (pa_cons pe_str (pa_cons pe_int pa_nil)))) pa_nil)))) pa_nil))))
      (pss_cons (ps_set (i := 9) sc_law.nd rfl (by first | exact Or.inl rfl | exact Or.inr rfl) (pe_tup (pa_cons pe_int (pa_cons (pe_tup (pa_cons pe_int pa_nil)) (pa_cons (pe_tup (pa_cons (pe_tup (pa_cons pe_int (pa_cons (pv 3) (pa_cons pe_int pa_nil)))) (pa_cons (pe_tup (pa_cons pe_int (pa_cons (pv 4) (pa_cons pe_int pa_nil)))) (pa_cons (pe_tup (pa_cons pe_int (pa_cons (pv 3) (pa_cons pe_int pa_nil)))) (pa_cons (pe_tup (pa_cons pe_int (pa_cons (pv 3) (pa_cons pe_int pa_nil)))) pa_nil))))) pa_nil)))))
      (pss_one (ps_ret (pe_call (ok_law_asked T) (hr.mono (by decide)) rfl T.d_law_asked.mg T.d_law_asked.kp T.d_law_asked.b .nil pass0 (pa_cons (pv 1) (pa_cons (pv 8) (pa_cons (pv 9) (pa_cons (pv 6) pa_nil)))))))))))))
      pss_nil)
    (pss_one (ps_ret pe_bl))))))), ?_⟩
    refine ⟨_, rfl, sa, ns, rfl, hs, hlen, fun p g H1 e1 hp hg P1 => ?_⟩
    refine ⟨_, rfl, p, g, rfl, P1, fun H2 f2 P2 => ⟨_, rfl, iteF ?_⟩⟩
    refine ⟨_, rfl, by decide, by decide, for_range (lo := 0) (n := 3) (fun i σ' H' => ∃ o2 o3 o4 o5 o6 o7 o8 o9 : Option V, σ' = [some (.ref sa), some (.ref p), o2, o3, o4, o5, o6, o7, o8, o9] ∧ Pl H' p g) ⟨_, _, _, _, _, _, _, _, rfl, P2⟩ ?_ ?_⟩
    · rintro i σ' H3 hi ⟨o2, o3, o4, o5, o6, o7, o8, o9, rfl, P3⟩
      refine ⟨_, rfl, p, g, rfl, P3, fun q a b H4 f4 P4 hq hab => ⟨q, _, rfl, SqL.of hq, rfl, _, _, rfl, _, _, rfl, rfl, ?_⟩⟩
      refine ⟨_, rfl, _, rfl, _, rfl, _, rfl, p, g, a, b, rfl, P4, fun vb es H5 f5 P5 hb5 bo h30 => ?_⟩
      refine ⟨_, rfl, _, rfl, _, rfl, p, g, a, b, rfl, P5, fun vm m H6 f6 P6 hm6 mo m5 ms m10 mE => ?_⟩
      refine ⟨_, rfl, _, rfl, _, rfl, _, _, rfl, rfl, sz2 _ _, p, g, [a, b], 8, congrArg (fun z => [V.ref p, V.str z, V.int 8]) (s2_ a b), P6, (fun z => nomatch z), by show 2 ≤ 1000; decide, by decide, fun t H7 f7 P7 ht hl => ?_⟩
      refine ⟨p, g, ([a, b], es), m, t, vb, vm, rfl, P7, Mo.mo (r := rBook) (f6.trans f7) hb5, Mo.mo (r := rMach) f7 hm6, pok_of bo h30 (by simp [hab]) mo (by omega) ms, ⟨by omega, by omega⟩, by omega, ht, fun H8 f8 P8 => ⟨_, rfl, iteF ?_⟩⟩
      exact ⟨_, _, _, _, _, _, _, _, rfl, P8⟩
    · rintro σ' H3 ⟨o2, o3, o4, o5, o6, o7, o8, o9, rfl, P3⟩
      refine ⟨_, rfl, by decide, by decide, for_range (lo := 0) (n := 3) (fun i σ' H' => ∃ o2 o3 o4 o5 o6 o7 o8 o9 : Option V, σ' = [some (.ref sa), some (.ref p), o2, o3, o4, o5, o6, o7, o8, o9] ∧ Pl H' p g) ⟨_, _, _, _, _, _, _, _, rfl, P3⟩ ?_ ?_⟩
      · rintro i σ' H3 hi ⟨o2, o3, o4, o5, o6, o7, o8, o9, rfl, P3⟩
        refine ⟨_, rfl, p, g, 3, rfl, P3, by decide, by decide, fun ls H4 f4 P4 nd hls hl3 => ?_⟩
        refine ⟨_, rfl, _, rfl, _, rfl, p, g, ls, 6, rfl, P4, hls, hl3, by decide, fun vb es H5 f5 P5 hb5 bo h30 => ?_⟩
        refine ⟨_, rfl, _, rfl, p, g, ls, 4, rfl, P5, hls, by omega, by decide, by decide, fun vm m H6 f6 P6 hm6 mo m4 ms m10 mE => ?_⟩
        refine ⟨_, rfl, _, rfl, p, g, ls, 7, rfl, P6, hls, by omega, by decide, fun t H7 f7 P7 ht hl => ?_⟩
        refine ⟨p, g, (ls, es), m, t, vb, vm, rfl, P7, Mo.mo (r := rBook) (f6.trans f7) hb5, Mo.mo (r := rMach) f7 hm6, pok_of bo h30 nd mo (by omega) ms, ⟨by omega, by omega⟩, by omega, ht, fun H8 f8 P8 => ⟨_, rfl, iteF ?_⟩⟩
        exact ⟨_, _, _, _, _, _, _, _, rfl, P8⟩
      · rintro σ' H3 ⟨o2, o3, o4, o5, o6, o7, o8, o9, rfl, P3⟩
        refine ⟨_, rfl, p, g, 11, rfl, P3, by decide, by decide, fun r H4 f4 P4 _ => ⟨rfl, _, rfl, ?_⟩⟩
        refine ite2 (fun _ => ?_) (fun _ => kk _)
        refine ⟨_, rfl, p, g, rfl, P4, fun q a b H5 f5 P5 hq hab => ⟨q, _, rfl, SqL.of hq, rfl, _, _, rfl, _, _, rfl, rfl, ?_⟩⟩
        refine ⟨_, rfl, p, g, 17, rfl, P5, by decide, by decide, fun r2 H6 f6 P6 hr2 => ⟨_, _, rfl, rfl, ?_⟩⟩
        refine ⟨fun k σ' H' => ∃ (t : List Nat) (o2 o5 : Option V), σ' = [some (.ref sa), some (.ref p), o2, some (s1 a), some (s1 b), o5, some (.str ⟨t.toArray⟩), some (.int (25 + (r2 : Int))), o8, o9] ∧ Pl H' p g ∧ (∀ x ∈ t, x ∈ [a, b]) ∧ t.length ≤ 25 + r2 + 2 ∧ k = 25 + r2 + 2 - t.length, ⟨_, [], _, _, by rw [← str_nil]; rfl, P6, (fun _ z => nomatch z), by show 0 ≤ _; omega, rfl⟩, ?_⟩
        rintro k σ' H7 ⟨t, o2, o5, rfl, P7, ht, hl, rfl⟩
        refine ⟨_, rfl, _, rfl, by rw [slen, sizeLine_eq]; omega, _, rfl, _, _, rfl, rfl, _, rfl, ?_⟩
        have hsl : (((⟨t.toArray⟩ : Str).length : Nat) : Int) = (t.length : Int) := by rw [slen]
        refine ite2 (fun hc => ?_) (fun hc => ?_)
        · have hlt : t.length < 25 + r2 := by
            have := of_decide_eq_true hc
            rw [hsl] at this
            omega
          refine ⟨_, fun _ _ h => h, ?_⟩
          refine ⟨_, rfl, _, rfl, _, rfl, _, _, rfl, rfl, sz2 _ _, _, rfl, _, rfl, _, _, rfl, rfl, sz2 _ _, _, rfl, _, _, rfl, rfl, sz3 _ _ _, _, rfl, _, rfl, by show 4 ≤ sizeLine; decide, fun L hL => ?_⟩
          have gL := Fe.new (o := .lst [.str (⟨#[a]⟩ ++ ⟨#[b]⟩), .str (⟨#[a]⟩ ++ ⟨#[a]⟩ ++ ⟨#[b]⟩), s1 a, s1 b]) hL
          have nL := P7.nw hL
          refine ⟨_, rfl, p, g, 4, rfl, P7.keep gL, by decide, by decide, fun j H8 f8 P8 hj => ?_⟩
          have hL8 := f8.keep _ _ nL (upd_same (o := HO.lst [.str (⟨#[a]⟩ ++ ⟨#[b]⟩), .str (⟨#[a]⟩ ++ ⟨#[a]⟩ ++ ⟨#[b]⟩), s1 a, s1 b]))
          obtain ⟨u, hu1, hu2, hu3, hu4⟩ : ∃ u : List Nat, ([.str (⟨#[a]⟩ ++ ⟨#[b]⟩), .str (⟨#[a]⟩ ++ ⟨#[a]⟩ ++ ⟨#[b]⟩), s1 a, s1 b] : List V)[j]? = some (.str ⟨u.toArray⟩) ∧ 1 ≤ u.length ∧ u.length ≤ 3 ∧ ∀ x ∈ u, x ∈ [a, b] := by
            rcases (by omega : j = 0 ∨ j = 1 ∨ j = 2 ∨ j = 3) with rfl | rfl | rfl | rfl
            · exact ⟨[a, b], congrArg (fun z => some (V.str z)) (s2_ a b), by simp, by simp, by simp⟩
            · exact ⟨[a, a, b], congrArg (fun z => some (V.str z)) (s3_ a a b), by simp, by simp, by simp⟩
            · exact ⟨[a], rfl, by simp, by simp, by simp⟩
            · exact ⟨[b], rfl, by simp, by simp, by simp⟩
          refine ⟨L, _, _, _, rfl, rfl, SqL.of hL8, atI_nat hu1, _, _, rfl, rfl, by rw [slen, slen, sizeLine_eq]; omega, 25 + r2 + 2 - (t ++ u).length, ?_, t ++ u, o2, o5, ?_, P8, fun x hx => ?_, by rw [List.length_append]; omega, rfl⟩
          · rw [List.length_append]; omega
          · have e := SX.S_cat t u
            rw [show (⟨(t ++ u).toArray⟩ : Str) = ⟨t.toArray⟩ ++ ⟨u.toArray⟩ from e.symm]
            rfl
          · rcases List.mem_append.mp hx with hx | hx
            · exact ht x hx
            · exact hu4 x hx
        · have hnd : [a, b].Nodup := by simp [hab]
          refine ⟨_, rfl, _, rfl, _, _, rfl, rfl, sz2 _ _, _, rfl, by show 3 ≤ sizeLine; decide, fun kt1 kh1 => ?_⟩
          have kg1 := Fe.new (o := .tup [s1 a, .str "", .int 1]) kh1
          refine ⟨_, rfl, _, rfl, _, _, rfl, rfl, sz2 _ _, _, rfl, _, _, rfl, rfl, sz3 _ _ _, _, rfl, _, rfl, _, _, rfl, rfl, sz2 _ _, by show 3 ≤ sizeLine; decide, fun kt2 kh2 => ?_⟩
          have kg2 := Fe.new (o := .tup [.str (⟨#[a]⟩ ++ ⟨#[b]⟩ ++ ⟨#[a]⟩), .str (⟨#[b]⟩ ++ ⟨#[a]⟩), .int 1]) kh2
          refine ⟨_, rfl, by show 3 ≤ sizeLine; decide, fun kt3 kh3 => ?_⟩
          have kg3 := Fe.new (o := .tup [s1 b, .str "", .int 2]) kh3
          refine ⟨by show 3 ≤ sizeLine; decide, fun kt4 kh4 => ?_⟩
          have kg4 := Fe.new (o := .tup [.ref kt1, .ref kt2, .ref kt3]) kh4
          refine ⟨by show 2 ≤ sizeLine; decide, fun kt5 kh5 => ?_⟩
          have kg5 := Fe.new (o := .tup [.str (⟨#[a]⟩ ++ ⟨#[b]⟩), .ref kt4]) kh5
          have ks4 := kg5
          have ks3 := kg4.trans ks4
          have ks2 := kg3.trans ks3
          have ks1 := kg2.trans ks2
          have kG := kg1.trans ks1
          have kM : rBook _ (.ref kt5) ([a, b], [([a], [], 1), ([a, b, a], [b, a], 1), ([b], [], 2)]) := ⟨kt5, _, _, rfl, (upd_same (o := .tup [.str (⟨#[a]⟩ ++ ⟨#[b]⟩), .ref kt4])), (congrArg V.str (s2_ a b)), ⟨kt4, _, rfl, ks4.k upd_same, (.cons ⟨kt1, _, _, _, rfl, ks1.k upd_same, rfl, (congrArg V.str str_nil), rfl⟩ (.cons ⟨kt2, _, _, _, rfl, ks2.k upd_same, (congrArg V.str (s3_ a b a)), (congrArg V.str (s2_ b a)), rfl⟩ (.cons ⟨kt3, _, _, _, rfl, ks3.k upd_same, rfl, (congrArg V.str str_nil), rfl⟩ .nil)))⟩⟩
          clear kh1 kh2 kh3 kh4 kh5 kg1 kg2 kg3 kg4 kg5 ks1 ks2 ks3 ks4
          generalize (upd (upd (upd (upd (upd H7 kt1 (.tup [s1 a, .str "", .int 1])) kt2 (.tup [.str (⟨#[a]⟩ ++ ⟨#[b]⟩ ++ ⟨#[a]⟩), .str (⟨#[b]⟩ ++ ⟨#[a]⟩), .int 1])) kt3 (.tup [s1 b, .str "", .int 2])) kt4 (.tup [.ref kt1, .ref kt2, .ref kt3])) kt5 (.tup [.str (⟨#[a]⟩ ++ ⟨#[b]⟩), .ref kt4])) = kH at kG kM ⊢
          refine ⟨by show 1 ≤ sizeLine; decide, fun wt1 wh1 => ?_⟩
          have wg1 := Fe.new (o := .tup [.int 4]) wh1
          refine ⟨_, rfl, by show 3 ≤ sizeLine; decide, fun wt2 wh2 => ?_⟩
          have wg2 := Fe.new (o := .tup [.int 0, s1 a, .int 1]) wh2
          refine ⟨_, rfl, by show 3 ≤ sizeLine; decide, fun wt3 wh3 => ?_⟩
          have wg3 := Fe.new (o := .tup [.int 1, s1 b, .int 2]) wh3
          refine ⟨_, rfl, by show 3 ≤ sizeLine; decide, fun wt4 wh4 => ?_⟩
          have wg4 := Fe.new (o := .tup [.int 2, s1 a, .int 3]) wh4
          refine ⟨_, rfl, by show 3 ≤ sizeLine; decide, fun wt5 wh5 => ?_⟩
          have wg5 := Fe.new (o := .tup [.int 3, s1 a, .int 4]) wh5
          refine ⟨by show 4 ≤ sizeLine; decide, fun wt6 wh6 => ?_⟩
          have wg6 := Fe.new (o := .tup [.ref wt2, .ref wt3, .ref wt4, .ref wt5]) wh6
          refine ⟨by show 3 ≤ sizeLine; decide, fun wt7 wh7 => ?_⟩
          have wg7 := Fe.new (o := .tup [.int 5, .ref wt1, .ref wt6]) wh7
          have ws6 := wg7
          have ws5 := wg6.trans ws6
          have ws4 := wg5.trans ws5
          have ws3 := wg4.trans ws4
          have ws2 := wg3.trans ws3
          have ws1 := wg2.trans ws2
          have wG := wg1.trans ws1
          have wM : rMach _ (.ref wt7) (5, [4], [(0, a, 1), (1, b, 2), (2, a, 3), (3, a, 4)]) := ⟨wt7, _, _, _, rfl, (upd_same (o := .tup [.int 5, .ref wt1, .ref wt6])), rfl, ⟨wt1, _, rfl, ws1.k upd_same, (.cons rfl .nil)⟩, ⟨wt6, _, rfl, ws6.k upd_same, (.cons ⟨wt2, _, _, _, rfl, ws2.k upd_same, rfl, rfl, rfl⟩ (.cons ⟨wt3, _, _, _, rfl, ws3.k upd_same, rfl, rfl, rfl⟩ (.cons ⟨wt4, _, _, _, rfl, ws4.k upd_same, rfl, rfl, rfl⟩ (.cons ⟨wt5, _, _, _, rfl, ws5.k upd_same, rfl, rfl, rfl⟩ .nil))))⟩⟩
          clear wh1 wh2 wh3 wh4 wh5 wh6 wh7 wg1 wg2 wg3 wg4 wg5 wg6 wg7 ws1 ws2 ws3 ws4 ws5 ws6
          generalize (upd (upd (upd (upd (upd (upd (upd kH wt1 (.tup [.int 4])) wt2 (.tup [.int 0, s1 a, .int 1])) wt3 (.tup [.int 1, s1 b, .int 2])) wt4 (.tup [.int 2, s1 a, .int 3])) wt5 (.tup [.int 3, s1 a, .int 4])) wt6 (.tup [.ref wt2, .ref wt3, .ref wt4, .ref wt5])) wt7 (.tup [.int 5, .ref wt1, .ref wt6])) = wH at wG wM ⊢
          have P9 := (P7.keep kG).keep wG
          refine ⟨_, rfl, _, rfl, _, rfl, _, rfl, p, g, _, _, t, .ref kt5, .ref wt7, rfl, P9, Mo.mo (r := rBook) wG kM, wM, pok_lit hnd rfl (by simp) (by simp), ⟨by show 5 + 4 < 60; decide, by show 1 + 4 < 60; decide⟩, by omega, ht, fun HA fA PA => kk HA⟩
end
end Fm
/-! what the top has written, and the law's walk -/
namespace Fm
open PySem L2
theorem all_mk {l : PySem.W.OpenLaw} {w : World} {K : PySem.W.Frag} {h : Heap} {mg : Str → Option Value} {fa c_MoveWeb f_steps_by_state f_states_behind f_states_along f_rests_of f_MoveWeb_init f_MoveWeb_put_moves f_MoveWeb_put_edits f_MoveWeb_is_end f_MoveWeb_ends f_MoveWeb_closed f_MoveWeb_behind f_better f_closed_pairs f_pairs_behind f_found_pieces f_best_piece f_law_pool f_law_draw f_law_letters f_law_text f_law_book f_law_machine f_law_house f_law_full f_law_pair f_law_ops f_law_ahead f_law_same f_law_pieces f_law_asked f_law_made f_law : Addr} (X : K.In h) (G : h.Ns mainGlobals mg) (hfa : mg "law" = some (.ref fa))
    {od_steps_by_state an_steps_by_state od_states_behind an_states_behind od_states_along an_states_along od_rests_of an_rests_of od_MoveWeb_init an_MoveWeb_init od_MoveWeb_put_moves an_MoveWeb_put_moves od_MoveWeb_put_edits an_MoveWeb_put_edits od_MoveWeb_is_end an_MoveWeb_is_end od_MoveWeb_ends an_MoveWeb_ends od_MoveWeb_closed an_MoveWeb_closed od_MoveWeb_behind an_MoveWeb_behind od_better an_better od_closed_pairs an_closed_pairs od_pairs_behind an_pairs_behind od_found_pieces an_found_pieces od_best_piece an_best_piece od_law_pool an_law_pool od_law_draw an_law_draw od_law_letters an_law_letters od_law_text an_law_text od_law_book an_law_book od_law_machine an_law_machine od_law_house an_law_house od_law_full an_law_full od_law_pair an_law_pair od_law_ops an_law_ops od_law_ahead an_law_ahead od_law_same an_law_same od_law_pieces an_law_pieces od_law_asked an_law_asked od_law_made an_law_made od_law an_law : Option Addr} {sl_steps_by_state sl_states_behind sl_states_along sl_rests_of sl_MoveWeb_init sl_MoveWeb_put_moves sl_MoveWeb_put_edits sl_MoveWeb_is_end sl_MoveWeb_ends sl_MoveWeb_closed sl_MoveWeb_behind sl_better sl_closed_pairs sl_pairs_behind sl_found_pieces sl_best_piece sl_law_pool sl_law_draw sl_law_letters sl_law_text sl_law_book sl_law_machine sl_law_house sl_law_full sl_law_pair sl_law_ops sl_law_ahead sl_law_same sl_law_pieces sl_law_asked sl_law_made sl_law : Array (Option Value)}
    {oc_steps_by_state kV_steps_by_state dc_steps_by_state pm_steps_by_state cd_steps_by_state ct_steps_by_state oc_states_behind kV_states_behind dc_states_behind pm_states_behind cd_states_behind ct_states_behind oc_states_along kV_states_along dc_states_along pm_states_along cd_states_along ct_states_along oc_rests_of kV_rests_of dc_rests_of pm_rests_of cd_rests_of ct_rests_of oc_MoveWeb_init kV_MoveWeb_init dc_MoveWeb_init pm_MoveWeb_init cd_MoveWeb_init ct_MoveWeb_init oc_MoveWeb_put_moves kV_MoveWeb_put_moves dc_MoveWeb_put_moves pm_MoveWeb_put_moves cd_MoveWeb_put_moves ct_MoveWeb_put_moves oc_MoveWeb_put_edits kV_MoveWeb_put_edits dc_MoveWeb_put_edits pm_MoveWeb_put_edits cd_MoveWeb_put_edits ct_MoveWeb_put_edits oc_MoveWeb_is_end kV_MoveWeb_is_end dc_MoveWeb_is_end pm_MoveWeb_is_end cd_MoveWeb_is_end ct_MoveWeb_is_end oc_MoveWeb_ends kV_MoveWeb_ends dc_MoveWeb_ends pm_MoveWeb_ends cd_MoveWeb_ends ct_MoveWeb_ends oc_MoveWeb_closed kV_MoveWeb_closed dc_MoveWeb_closed pm_MoveWeb_closed cd_MoveWeb_closed ct_MoveWeb_closed oc_MoveWeb_behind kV_MoveWeb_behind dc_MoveWeb_behind pm_MoveWeb_behind cd_MoveWeb_behind ct_MoveWeb_behind oc_better kV_better dc_better pm_better cd_better ct_better oc_closed_pairs kV_closed_pairs dc_closed_pairs pm_closed_pairs cd_closed_pairs ct_closed_pairs oc_pairs_behind kV_pairs_behind dc_pairs_behind pm_pairs_behind cd_pairs_behind ct_pairs_behind oc_found_pieces kV_found_pieces dc_found_pieces pm_found_pieces cd_found_pieces ct_found_pieces oc_best_piece kV_best_piece dc_best_piece pm_best_piece cd_best_piece ct_best_piece oc_law_pool kV_law_pool dc_law_pool pm_law_pool cd_law_pool ct_law_pool oc_law_draw kV_law_draw dc_law_draw pm_law_draw cd_law_draw ct_law_draw oc_law_letters kV_law_letters dc_law_letters pm_law_letters cd_law_letters ct_law_letters oc_law_text kV_law_text dc_law_text pm_law_text cd_law_text ct_law_text oc_law_book kV_law_book dc_law_book pm_law_book cd_law_book ct_law_book oc_law_machine kV_law_machine dc_law_machine pm_law_machine cd_law_machine ct_law_machine oc_law_house kV_law_house dc_law_house pm_law_house cd_law_house ct_law_house oc_law_full kV_law_full dc_law_full pm_law_full cd_law_full ct_law_full oc_law_pair kV_law_pair dc_law_pair pm_law_pair cd_law_pair ct_law_pair oc_law_ops kV_law_ops dc_law_ops pm_law_ops cd_law_ops ct_law_ops oc_law_ahead kV_law_ahead dc_law_ahead pm_law_ahead cd_law_ahead ct_law_ahead oc_law_same kV_law_same dc_law_same pm_law_same cd_law_same ct_law_same oc_law_pieces kV_law_pieces dc_law_pieces pm_law_pieces cd_law_pieces ct_law_pieces oc_law_asked kV_law_asked dc_law_asked pm_law_asked cd_law_asked ct_law_asked oc_law_made kV_law_made dc_law_made pm_law_made cd_law_made ct_law_made oc_law kV_law dc_law pm_law cd_law ct_law : Value}
    (z_len : PySem.W.nsIn K mainGlobals "len" = some none)
    (z_range : PySem.W.nsIn K mainGlobals "range" = some none)
    (z_enumerate : PySem.W.nsIn K mainGlobals "enumerate" = some none)
    (z_zip : PySem.W.nsIn K mainGlobals "zip" = some none)
    (z_list : PySem.W.nsIn K mainGlobals "list" = some none)
    (z_tuple : PySem.W.nsIn K mainGlobals "tuple" = some none)
    (z_sorted : PySem.W.nsIn K mainGlobals "sorted" = some none)
    (z_min : PySem.W.nsIn K mainGlobals "min" = some none)
    (z_set : PySem.W.nsIn K mainGlobals "set" = some none)
    (z_int : PySem.W.nsIn K mainGlobals "int" = some none)
    (z_str : PySem.W.nsIn K mainGlobals "str" = some none)
    (z_isinstance : PySem.W.nsIn K mainGlobals "isinstance" = some none)
    (z_bool : PySem.W.nsIn K mainGlobals "bool" = some none)
    (g_MoveWeb : PySem.W.nsIn K mainGlobals "MoveWeb" = some (some (.ref c_MoveWeb)))
    (pg_MoveWeb : PySem.W.plainGet K c_MoveWeb Str.empty = true)
    (hd_MoveWeb : PySem.W.hasDictIn K c_MoveWeb = true)
    (po_MoveWeb : PySem.W.plainOver K c_MoveWeb = true)
    (sa_MoveWeb : PySem.W.findIn K (.ref c_MoveWeb) "__setattr__" = some (some (.builtin "object.__setattr__")))
    (mks_MoveWeb : PySem.W.makesIn K c_MoveWeb = true)
    (kc_MoveWeb : PySem.W.keepIn K (.ref c_MoveWeb) = true)
    (na_MoveWeb_book : PySem.W.findIn K (.ref c_MoveWeb) "book" = some none)
    (na_MoveWeb_machine : PySem.W.findIn K (.ref c_MoveWeb) "machine" = some none)
    (na_MoveWeb_standings : PySem.W.findIn K (.ref c_MoveWeb) "standings" = some none)
    (na_MoveWeb_homes : PySem.W.findIn K (.ref c_MoveWeb) "homes" = some none)
    (na_MoveWeb_silent : PySem.W.findIn K (.ref c_MoveWeb) "silent" = some none)
    (na_MoveWeb_reading : PySem.W.findIn K (.ref c_MoveWeb) "reading" = some none)
    (a_steps_by_state : PySem.W.nsIn K mainGlobals "steps_by_state" = some (some (.ref f_steps_by_state)))
    (l_steps_by_state : K.lookup f_steps_by_state = some ⟨oc_steps_by_state, od_steps_by_state, .func (PySem.W.fnOf "steps_by_state" "steps_by_state" (defArgs s_steps_by_state) (defBody s_steps_by_state) (defScope s_steps_by_state) .none kV_steps_by_state dc_steps_by_state pm_steps_by_state an_steps_by_state cd_steps_by_state ct_steps_by_state), sl_steps_by_state⟩)
    (k_steps_by_state : PySem.W.codeIn K cd_steps_by_state "steps_by_state" = true)
    (p_steps_by_state : PySem.W.keepIn K (.ref f_steps_by_state) = true)
    (a_states_behind : PySem.W.nsIn K mainGlobals "states_behind" = some (some (.ref f_states_behind)))
    (l_states_behind : K.lookup f_states_behind = some ⟨oc_states_behind, od_states_behind, .func (PySem.W.fnOf "states_behind" "states_behind" (defArgs s_states_behind) (defBody s_states_behind) (defScope s_states_behind) .none kV_states_behind dc_states_behind pm_states_behind an_states_behind cd_states_behind ct_states_behind), sl_states_behind⟩)
    (k_states_behind : PySem.W.codeIn K cd_states_behind "states_behind" = true)
    (p_states_behind : PySem.W.keepIn K (.ref f_states_behind) = true)
    (a_states_along : PySem.W.nsIn K mainGlobals "states_along" = some (some (.ref f_states_along)))
    (l_states_along : K.lookup f_states_along = some ⟨oc_states_along, od_states_along, .func (PySem.W.fnOf "states_along" "states_along" (defArgs s_states_along) (defBody s_states_along) (defScope s_states_along) .none kV_states_along dc_states_along pm_states_along an_states_along cd_states_along ct_states_along), sl_states_along⟩)
    (k_states_along : PySem.W.codeIn K cd_states_along "states_along" = true)
    (p_states_along : PySem.W.keepIn K (.ref f_states_along) = true)
    (a_rests_of : PySem.W.nsIn K mainGlobals "rests_of" = some (some (.ref f_rests_of)))
    (l_rests_of : K.lookup f_rests_of = some ⟨oc_rests_of, od_rests_of, .func (PySem.W.fnOf "rests_of" "rests_of" (defArgs s_rests_of) (defBody s_rests_of) (defScope s_rests_of) .none kV_rests_of dc_rests_of pm_rests_of an_rests_of cd_rests_of ct_rests_of), sl_rests_of⟩)
    (k_rests_of : PySem.W.codeIn K cd_rests_of "rests_of" = true)
    (p_rests_of : PySem.W.keepIn K (.ref f_rests_of) = true)
    (a_MoveWeb_init : PySem.W.findIn K (.ref c_MoveWeb) "__init__" = some (some (.ref f_MoveWeb_init)))
    (i_MoveWeb_init : PySem.W.isFn K (.ref f_MoveWeb_init) = true)
    (l_MoveWeb_init : K.lookup f_MoveWeb_init = some ⟨oc_MoveWeb_init, od_MoveWeb_init, .func (PySem.W.fnOf "__init__" "MoveWeb.__init__" (defArgs s_MoveWeb_init) (defBody s_MoveWeb_init) (defScope s_MoveWeb_init) .none kV_MoveWeb_init dc_MoveWeb_init pm_MoveWeb_init an_MoveWeb_init cd_MoveWeb_init ct_MoveWeb_init), sl_MoveWeb_init⟩)
    (k_MoveWeb_init : PySem.W.codeIn K cd_MoveWeb_init "MoveWeb.__init__" = true)
    (p_MoveWeb_init : PySem.W.keepIn K (.ref f_MoveWeb_init) = true)
    (a_MoveWeb_put_moves : PySem.W.findIn K (.ref c_MoveWeb) "put_moves" = some (some (.ref f_MoveWeb_put_moves)))
    (i_MoveWeb_put_moves : PySem.W.isFn K (.ref f_MoveWeb_put_moves) = true)
    (l_MoveWeb_put_moves : K.lookup f_MoveWeb_put_moves = some ⟨oc_MoveWeb_put_moves, od_MoveWeb_put_moves, .func (PySem.W.fnOf "put_moves" "MoveWeb.put_moves" (defArgs s_MoveWeb_put_moves) (defBody s_MoveWeb_put_moves) (defScope s_MoveWeb_put_moves) .none kV_MoveWeb_put_moves dc_MoveWeb_put_moves pm_MoveWeb_put_moves an_MoveWeb_put_moves cd_MoveWeb_put_moves ct_MoveWeb_put_moves), sl_MoveWeb_put_moves⟩)
    (k_MoveWeb_put_moves : PySem.W.codeIn K cd_MoveWeb_put_moves "MoveWeb.put_moves" = true)
    (p_MoveWeb_put_moves : PySem.W.keepIn K (.ref f_MoveWeb_put_moves) = true)
    (a_MoveWeb_put_edits : PySem.W.findIn K (.ref c_MoveWeb) "put_edits" = some (some (.ref f_MoveWeb_put_edits)))
    (i_MoveWeb_put_edits : PySem.W.isFn K (.ref f_MoveWeb_put_edits) = true)
    (l_MoveWeb_put_edits : K.lookup f_MoveWeb_put_edits = some ⟨oc_MoveWeb_put_edits, od_MoveWeb_put_edits, .func (PySem.W.fnOf "put_edits" "MoveWeb.put_edits" (defArgs s_MoveWeb_put_edits) (defBody s_MoveWeb_put_edits) (defScope s_MoveWeb_put_edits) .none kV_MoveWeb_put_edits dc_MoveWeb_put_edits pm_MoveWeb_put_edits an_MoveWeb_put_edits cd_MoveWeb_put_edits ct_MoveWeb_put_edits), sl_MoveWeb_put_edits⟩)
    (k_MoveWeb_put_edits : PySem.W.codeIn K cd_MoveWeb_put_edits "MoveWeb.put_edits" = true)
    (p_MoveWeb_put_edits : PySem.W.keepIn K (.ref f_MoveWeb_put_edits) = true)
    (a_MoveWeb_is_end : PySem.W.findIn K (.ref c_MoveWeb) "is_end" = some (some (.ref f_MoveWeb_is_end)))
    (i_MoveWeb_is_end : PySem.W.isFn K (.ref f_MoveWeb_is_end) = true)
    (l_MoveWeb_is_end : K.lookup f_MoveWeb_is_end = some ⟨oc_MoveWeb_is_end, od_MoveWeb_is_end, .func (PySem.W.fnOf "is_end" "MoveWeb.is_end" (defArgs s_MoveWeb_is_end) (defBody s_MoveWeb_is_end) (defScope s_MoveWeb_is_end) .none kV_MoveWeb_is_end dc_MoveWeb_is_end pm_MoveWeb_is_end an_MoveWeb_is_end cd_MoveWeb_is_end ct_MoveWeb_is_end), sl_MoveWeb_is_end⟩)
    (k_MoveWeb_is_end : PySem.W.codeIn K cd_MoveWeb_is_end "MoveWeb.is_end" = true)
    (p_MoveWeb_is_end : PySem.W.keepIn K (.ref f_MoveWeb_is_end) = true)
    (a_MoveWeb_ends : PySem.W.findIn K (.ref c_MoveWeb) "ends" = some (some (.ref f_MoveWeb_ends)))
    (i_MoveWeb_ends : PySem.W.isFn K (.ref f_MoveWeb_ends) = true)
    (l_MoveWeb_ends : K.lookup f_MoveWeb_ends = some ⟨oc_MoveWeb_ends, od_MoveWeb_ends, .func (PySem.W.fnOf "ends" "MoveWeb.ends" (defArgs s_MoveWeb_ends) (defBody s_MoveWeb_ends) (defScope s_MoveWeb_ends) .none kV_MoveWeb_ends dc_MoveWeb_ends pm_MoveWeb_ends an_MoveWeb_ends cd_MoveWeb_ends ct_MoveWeb_ends), sl_MoveWeb_ends⟩)
    (k_MoveWeb_ends : PySem.W.codeIn K cd_MoveWeb_ends "MoveWeb.ends" = true)
    (p_MoveWeb_ends : PySem.W.keepIn K (.ref f_MoveWeb_ends) = true)
    (a_MoveWeb_closed : PySem.W.findIn K (.ref c_MoveWeb) "closed" = some (some (.ref f_MoveWeb_closed)))
    (i_MoveWeb_closed : PySem.W.isFn K (.ref f_MoveWeb_closed) = true)
    (l_MoveWeb_closed : K.lookup f_MoveWeb_closed = some ⟨oc_MoveWeb_closed, od_MoveWeb_closed, .func (PySem.W.fnOf "closed" "MoveWeb.closed" (defArgs s_MoveWeb_closed) (defBody s_MoveWeb_closed) (defScope s_MoveWeb_closed) .none kV_MoveWeb_closed dc_MoveWeb_closed pm_MoveWeb_closed an_MoveWeb_closed cd_MoveWeb_closed ct_MoveWeb_closed), sl_MoveWeb_closed⟩)
    (k_MoveWeb_closed : PySem.W.codeIn K cd_MoveWeb_closed "MoveWeb.closed" = true)
    (p_MoveWeb_closed : PySem.W.keepIn K (.ref f_MoveWeb_closed) = true)
    (a_MoveWeb_behind : PySem.W.findIn K (.ref c_MoveWeb) "behind" = some (some (.ref f_MoveWeb_behind)))
    (i_MoveWeb_behind : PySem.W.isFn K (.ref f_MoveWeb_behind) = true)
    (l_MoveWeb_behind : K.lookup f_MoveWeb_behind = some ⟨oc_MoveWeb_behind, od_MoveWeb_behind, .func (PySem.W.fnOf "behind" "MoveWeb.behind" (defArgs s_MoveWeb_behind) (defBody s_MoveWeb_behind) (defScope s_MoveWeb_behind) .none kV_MoveWeb_behind dc_MoveWeb_behind pm_MoveWeb_behind an_MoveWeb_behind cd_MoveWeb_behind ct_MoveWeb_behind), sl_MoveWeb_behind⟩)
    (k_MoveWeb_behind : PySem.W.codeIn K cd_MoveWeb_behind "MoveWeb.behind" = true)
    (p_MoveWeb_behind : PySem.W.keepIn K (.ref f_MoveWeb_behind) = true)
    (a_better : PySem.W.nsIn K mainGlobals "better" = some (some (.ref f_better)))
    (l_better : K.lookup f_better = some ⟨oc_better, od_better, .func (PySem.W.fnOf "better" "better" (defArgs s_better) (defBody s_better) (defScope s_better) .none kV_better dc_better pm_better an_better cd_better ct_better), sl_better⟩)
    (k_better : PySem.W.codeIn K cd_better "better" = true)
    (p_better : PySem.W.keepIn K (.ref f_better) = true)
    (a_closed_pairs : PySem.W.nsIn K mainGlobals "closed_pairs" = some (some (.ref f_closed_pairs)))
    (l_closed_pairs : K.lookup f_closed_pairs = some ⟨oc_closed_pairs, od_closed_pairs, .func (PySem.W.fnOf "closed_pairs" "closed_pairs" (defArgs s_closed_pairs) (defBody s_closed_pairs) (defScope s_closed_pairs) .none kV_closed_pairs dc_closed_pairs pm_closed_pairs an_closed_pairs cd_closed_pairs ct_closed_pairs), sl_closed_pairs⟩)
    (k_closed_pairs : PySem.W.codeIn K cd_closed_pairs "closed_pairs" = true)
    (p_closed_pairs : PySem.W.keepIn K (.ref f_closed_pairs) = true)
    (a_pairs_behind : PySem.W.nsIn K mainGlobals "pairs_behind" = some (some (.ref f_pairs_behind)))
    (l_pairs_behind : K.lookup f_pairs_behind = some ⟨oc_pairs_behind, od_pairs_behind, .func (PySem.W.fnOf "pairs_behind" "pairs_behind" (defArgs s_pairs_behind) (defBody s_pairs_behind) (defScope s_pairs_behind) .none kV_pairs_behind dc_pairs_behind pm_pairs_behind an_pairs_behind cd_pairs_behind ct_pairs_behind), sl_pairs_behind⟩)
    (k_pairs_behind : PySem.W.codeIn K cd_pairs_behind "pairs_behind" = true)
    (p_pairs_behind : PySem.W.keepIn K (.ref f_pairs_behind) = true)
    (a_found_pieces : PySem.W.nsIn K mainGlobals "found_pieces" = some (some (.ref f_found_pieces)))
    (l_found_pieces : K.lookup f_found_pieces = some ⟨oc_found_pieces, od_found_pieces, .func (PySem.W.fnOf "found_pieces" "found_pieces" (defArgs s_found_pieces) (defBody s_found_pieces) (defScope s_found_pieces) .none kV_found_pieces dc_found_pieces pm_found_pieces an_found_pieces cd_found_pieces ct_found_pieces), sl_found_pieces⟩)
    (k_found_pieces : PySem.W.codeIn K cd_found_pieces "found_pieces" = true)
    (p_found_pieces : PySem.W.keepIn K (.ref f_found_pieces) = true)
    (a_best_piece : PySem.W.nsIn K mainGlobals "best_piece" = some (some (.ref f_best_piece)))
    (l_best_piece : K.lookup f_best_piece = some ⟨oc_best_piece, od_best_piece, .func (PySem.W.fnOf "best_piece" "best_piece" (defArgs s_best_piece) (defBody s_best_piece) (defScope s_best_piece) .none kV_best_piece dc_best_piece pm_best_piece an_best_piece cd_best_piece ct_best_piece), sl_best_piece⟩)
    (k_best_piece : PySem.W.codeIn K cd_best_piece "best_piece" = true)
    (p_best_piece : PySem.W.keepIn K (.ref f_best_piece) = true)
    (a_law_pool : PySem.W.nsIn K mainGlobals "_law_pool" = some (some (.ref f_law_pool)))
    (l_law_pool : K.lookup f_law_pool = some ⟨oc_law_pool, od_law_pool, .func (PySem.W.fnOf "_law_pool" "_law_pool" (defArgs s_law_pool) (defBody s_law_pool) (defScope s_law_pool) .none kV_law_pool dc_law_pool pm_law_pool an_law_pool cd_law_pool ct_law_pool), sl_law_pool⟩)
    (k_law_pool : PySem.W.codeIn K cd_law_pool "_law_pool" = true)
    (p_law_pool : PySem.W.keepIn K (.ref f_law_pool) = true)
    (a_law_draw : PySem.W.nsIn K mainGlobals "_law_draw" = some (some (.ref f_law_draw)))
    (l_law_draw : K.lookup f_law_draw = some ⟨oc_law_draw, od_law_draw, .func (PySem.W.fnOf "_law_draw" "_law_draw" (defArgs s_law_draw) (defBody s_law_draw) (defScope s_law_draw) .none kV_law_draw dc_law_draw pm_law_draw an_law_draw cd_law_draw ct_law_draw), sl_law_draw⟩)
    (k_law_draw : PySem.W.codeIn K cd_law_draw "_law_draw" = true)
    (p_law_draw : PySem.W.keepIn K (.ref f_law_draw) = true)
    (a_law_letters : PySem.W.nsIn K mainGlobals "_law_letters" = some (some (.ref f_law_letters)))
    (l_law_letters : K.lookup f_law_letters = some ⟨oc_law_letters, od_law_letters, .func (PySem.W.fnOf "_law_letters" "_law_letters" (defArgs s_law_letters) (defBody s_law_letters) (defScope s_law_letters) .none kV_law_letters dc_law_letters pm_law_letters an_law_letters cd_law_letters ct_law_letters), sl_law_letters⟩)
    (k_law_letters : PySem.W.codeIn K cd_law_letters "_law_letters" = true)
    (p_law_letters : PySem.W.keepIn K (.ref f_law_letters) = true)
    (a_law_text : PySem.W.nsIn K mainGlobals "_law_text" = some (some (.ref f_law_text)))
    (l_law_text : K.lookup f_law_text = some ⟨oc_law_text, od_law_text, .func (PySem.W.fnOf "_law_text" "_law_text" (defArgs s_law_text) (defBody s_law_text) (defScope s_law_text) .none kV_law_text dc_law_text pm_law_text an_law_text cd_law_text ct_law_text), sl_law_text⟩)
    (k_law_text : PySem.W.codeIn K cd_law_text "_law_text" = true)
    (p_law_text : PySem.W.keepIn K (.ref f_law_text) = true)
    (a_law_book : PySem.W.nsIn K mainGlobals "_law_book" = some (some (.ref f_law_book)))
    (l_law_book : K.lookup f_law_book = some ⟨oc_law_book, od_law_book, .func (PySem.W.fnOf "_law_book" "_law_book" (defArgs s_law_book) (defBody s_law_book) (defScope s_law_book) .none kV_law_book dc_law_book pm_law_book an_law_book cd_law_book ct_law_book), sl_law_book⟩)
    (k_law_book : PySem.W.codeIn K cd_law_book "_law_book" = true)
    (p_law_book : PySem.W.keepIn K (.ref f_law_book) = true)
    (a_law_machine : PySem.W.nsIn K mainGlobals "_law_machine" = some (some (.ref f_law_machine)))
    (l_law_machine : K.lookup f_law_machine = some ⟨oc_law_machine, od_law_machine, .func (PySem.W.fnOf "_law_machine" "_law_machine" (defArgs s_law_machine) (defBody s_law_machine) (defScope s_law_machine) .none kV_law_machine dc_law_machine pm_law_machine an_law_machine cd_law_machine ct_law_machine), sl_law_machine⟩)
    (k_law_machine : PySem.W.codeIn K cd_law_machine "_law_machine" = true)
    (p_law_machine : PySem.W.keepIn K (.ref f_law_machine) = true)
    (a_law_house : PySem.W.nsIn K mainGlobals "_law_house" = some (some (.ref f_law_house)))
    (l_law_house : K.lookup f_law_house = some ⟨oc_law_house, od_law_house, .func (PySem.W.fnOf "_law_house" "_law_house" (defArgs s_law_house) (defBody s_law_house) (defScope s_law_house) .none kV_law_house dc_law_house pm_law_house an_law_house cd_law_house ct_law_house), sl_law_house⟩)
    (k_law_house : PySem.W.codeIn K cd_law_house "_law_house" = true)
    (p_law_house : PySem.W.keepIn K (.ref f_law_house) = true)
    (a_law_full : PySem.W.nsIn K mainGlobals "_law_full" = some (some (.ref f_law_full)))
    (l_law_full : K.lookup f_law_full = some ⟨oc_law_full, od_law_full, .func (PySem.W.fnOf "_law_full" "_law_full" (defArgs s_law_full) (defBody s_law_full) (defScope s_law_full) .none kV_law_full dc_law_full pm_law_full an_law_full cd_law_full ct_law_full), sl_law_full⟩)
    (k_law_full : PySem.W.codeIn K cd_law_full "_law_full" = true)
    (p_law_full : PySem.W.keepIn K (.ref f_law_full) = true)
    (a_law_pair : PySem.W.nsIn K mainGlobals "_law_pair" = some (some (.ref f_law_pair)))
    (l_law_pair : K.lookup f_law_pair = some ⟨oc_law_pair, od_law_pair, .func (PySem.W.fnOf "_law_pair" "_law_pair" (defArgs s_law_pair) (defBody s_law_pair) (defScope s_law_pair) .none kV_law_pair dc_law_pair pm_law_pair an_law_pair cd_law_pair ct_law_pair), sl_law_pair⟩)
    (k_law_pair : PySem.W.codeIn K cd_law_pair "_law_pair" = true)
    (p_law_pair : PySem.W.keepIn K (.ref f_law_pair) = true)
    (a_law_ops : PySem.W.nsIn K mainGlobals "_law_ops" = some (some (.ref f_law_ops)))
    (l_law_ops : K.lookup f_law_ops = some ⟨oc_law_ops, od_law_ops, .func (PySem.W.fnOf "_law_ops" "_law_ops" (defArgs s_law_ops) (defBody s_law_ops) (defScope s_law_ops) .none kV_law_ops dc_law_ops pm_law_ops an_law_ops cd_law_ops ct_law_ops), sl_law_ops⟩)
    (k_law_ops : PySem.W.codeIn K cd_law_ops "_law_ops" = true)
    (p_law_ops : PySem.W.keepIn K (.ref f_law_ops) = true)
    (a_law_ahead : PySem.W.nsIn K mainGlobals "_law_ahead" = some (some (.ref f_law_ahead)))
    (l_law_ahead : K.lookup f_law_ahead = some ⟨oc_law_ahead, od_law_ahead, .func (PySem.W.fnOf "_law_ahead" "_law_ahead" (defArgs s_law_ahead) (defBody s_law_ahead) (defScope s_law_ahead) .none kV_law_ahead dc_law_ahead pm_law_ahead an_law_ahead cd_law_ahead ct_law_ahead), sl_law_ahead⟩)
    (k_law_ahead : PySem.W.codeIn K cd_law_ahead "_law_ahead" = true)
    (p_law_ahead : PySem.W.keepIn K (.ref f_law_ahead) = true)
    (a_law_same : PySem.W.nsIn K mainGlobals "_law_same" = some (some (.ref f_law_same)))
    (l_law_same : K.lookup f_law_same = some ⟨oc_law_same, od_law_same, .func (PySem.W.fnOf "_law_same" "_law_same" (defArgs s_law_same) (defBody s_law_same) (defScope s_law_same) .none kV_law_same dc_law_same pm_law_same an_law_same cd_law_same ct_law_same), sl_law_same⟩)
    (k_law_same : PySem.W.codeIn K cd_law_same "_law_same" = true)
    (p_law_same : PySem.W.keepIn K (.ref f_law_same) = true)
    (a_law_pieces : PySem.W.nsIn K mainGlobals "_law_pieces" = some (some (.ref f_law_pieces)))
    (l_law_pieces : K.lookup f_law_pieces = some ⟨oc_law_pieces, od_law_pieces, .func (PySem.W.fnOf "_law_pieces" "_law_pieces" (defArgs s_law_pieces) (defBody s_law_pieces) (defScope s_law_pieces) .none kV_law_pieces dc_law_pieces pm_law_pieces an_law_pieces cd_law_pieces ct_law_pieces), sl_law_pieces⟩)
    (k_law_pieces : PySem.W.codeIn K cd_law_pieces "_law_pieces" = true)
    (p_law_pieces : PySem.W.keepIn K (.ref f_law_pieces) = true)
    (a_law_asked : PySem.W.nsIn K mainGlobals "_law_asked" = some (some (.ref f_law_asked)))
    (l_law_asked : K.lookup f_law_asked = some ⟨oc_law_asked, od_law_asked, .func (PySem.W.fnOf "_law_asked" "_law_asked" (defArgs s_law_asked) (defBody s_law_asked) (defScope s_law_asked) .none kV_law_asked dc_law_asked pm_law_asked an_law_asked cd_law_asked ct_law_asked), sl_law_asked⟩)
    (k_law_asked : PySem.W.codeIn K cd_law_asked "_law_asked" = true)
    (p_law_asked : PySem.W.keepIn K (.ref f_law_asked) = true)
    (a_law_made : PySem.W.nsIn K mainGlobals "_law_made" = some (some (.ref f_law_made)))
    (l_law_made : K.lookup f_law_made = some ⟨oc_law_made, od_law_made, .func (PySem.W.fnOf "_law_made" "_law_made" (defArgs s_law_made) (defBody s_law_made) (defScope s_law_made) .none kV_law_made dc_law_made pm_law_made an_law_made cd_law_made ct_law_made), sl_law_made⟩)
    (k_law_made : PySem.W.codeIn K cd_law_made "_law_made" = true)
    (p_law_made : PySem.W.keepIn K (.ref f_law_made) = true)
    (a_law : PySem.W.nsIn K mainGlobals "law" = some (some (.ref f_law)))
    (l_law : K.lookup f_law = some ⟨oc_law, od_law, .func (PySem.W.fnOf "law" "law" (defArgs s_law) (defBody s_law) (defScope s_law) .none kV_law dc_law pm_law an_law cd_law ct_law), sl_law⟩)
    (k_law : PySem.W.codeIn K cd_law "law" = true)
    (p_law : PySem.W.keepIn K (.ref f_law) = true)
    : ∃ fd : FuncData, (∀ (s : Shared) (v : Value), BindsTo s fd ⟨[v], []⟩ [("script", v)]) ∧ ∀ base : Heap, K.In base → base.Ns mainGlobals mg → FnOk l.prog w K mg base CX0 11 fa fd ["script"] (spLaw K) := by
  have e := hfa.symm.trans (PySem.W.mg_of X G a_law)
  cases e
  have F_steps_by_state := fun_mk (st := s_steps_by_state) l_steps_by_state k_steps_by_state p_steps_by_state
  have b_steps_by_state := F_steps_by_state.binds (ps := P_steps_by_state) fun _ _ _ _ _ _ us hl => match us, hl with | [_], _ => rfl
  have F_states_behind := fun_mk (st := s_states_behind) l_states_behind k_states_behind p_states_behind
  have b_states_behind := F_states_behind.binds (ps := P_states_behind) fun _ _ _ _ _ _ us hl => match us, hl with | [_, _, _], _ => rfl
  have F_states_along := fun_mk (st := s_states_along) l_states_along k_states_along p_states_along
  have b_states_along := F_states_along.binds (ps := P_states_along) fun _ _ _ _ _ _ us hl => match us, hl with | [_, _, _], _ => rfl
  have F_rests_of := fun_mk (st := s_rests_of) l_rests_of k_rests_of p_rests_of
  have b_rests_of := F_rests_of.binds (ps := P_rests_of) fun _ _ _ _ _ _ us hl => match us, hl with | [_], _ => rfl
  have F_MoveWeb_init := fun_mk (st := s_MoveWeb_init) l_MoveWeb_init k_MoveWeb_init p_MoveWeb_init
  have b_MoveWeb_init := F_MoveWeb_init.binds (ps := P_MoveWeb_init) fun _ _ _ _ _ _ us hl => match us, hl with | [_, _, _], _ => rfl
  have F_MoveWeb_put_moves := fun_mk (st := s_MoveWeb_put_moves) l_MoveWeb_put_moves k_MoveWeb_put_moves p_MoveWeb_put_moves
  have b_MoveWeb_put_moves := F_MoveWeb_put_moves.binds (ps := P_MoveWeb_put_moves) fun _ _ _ _ _ _ us hl => match us, hl with | [_, _], _ => rfl
  have F_MoveWeb_put_edits := fun_mk (st := s_MoveWeb_put_edits) l_MoveWeb_put_edits k_MoveWeb_put_edits p_MoveWeb_put_edits
  have b_MoveWeb_put_edits := F_MoveWeb_put_edits.binds (ps := P_MoveWeb_put_edits) fun _ _ _ _ _ _ us hl => match us, hl with | [_, _, _, _], _ => rfl
  have F_MoveWeb_is_end := fun_mk (st := s_MoveWeb_is_end) l_MoveWeb_is_end k_MoveWeb_is_end p_MoveWeb_is_end
  have b_MoveWeb_is_end := F_MoveWeb_is_end.binds (ps := P_MoveWeb_is_end) fun _ _ _ _ _ _ us hl => match us, hl with | [_, _], _ => rfl
  have F_MoveWeb_ends := fun_mk (st := s_MoveWeb_ends) l_MoveWeb_ends k_MoveWeb_ends p_MoveWeb_ends
  have b_MoveWeb_ends := F_MoveWeb_ends.binds (ps := P_MoveWeb_ends) fun _ _ _ _ _ _ us hl => match us, hl with | [_], _ => rfl
  have F_MoveWeb_closed := fun_mk (st := s_MoveWeb_closed) l_MoveWeb_closed k_MoveWeb_closed p_MoveWeb_closed
  have b_MoveWeb_closed := F_MoveWeb_closed.binds (ps := P_MoveWeb_closed) fun _ _ _ _ _ _ us hl => match us, hl with | [_, _], _ => rfl
  have F_MoveWeb_behind := fun_mk (st := s_MoveWeb_behind) l_MoveWeb_behind k_MoveWeb_behind p_MoveWeb_behind
  have b_MoveWeb_behind := F_MoveWeb_behind.binds (ps := P_MoveWeb_behind) fun _ _ _ _ _ _ us hl => match us, hl with | [_, _, _], _ => rfl
  have F_better := fun_mk (st := s_better) l_better k_better p_better
  have b_better := F_better.binds (ps := P_better) fun _ _ _ _ _ _ us hl => match us, hl with | [_, _], _ => rfl
  have F_closed_pairs := fun_mk (st := s_closed_pairs) l_closed_pairs k_closed_pairs p_closed_pairs
  have b_closed_pairs := F_closed_pairs.binds (ps := P_closed_pairs) fun _ _ _ _ _ _ us hl => match us, hl with | [_, _], _ => rfl
  have F_pairs_behind := fun_mk (st := s_pairs_behind) l_pairs_behind k_pairs_behind p_pairs_behind
  have b_pairs_behind := F_pairs_behind.binds (ps := P_pairs_behind) fun _ _ _ _ _ _ us hl => match us, hl with | [_, _, _], _ => rfl
  have F_found_pieces := fun_mk (st := s_found_pieces) l_found_pieces k_found_pieces p_found_pieces
  have b_found_pieces := F_found_pieces.binds (ps := P_found_pieces) fun _ _ _ _ _ _ us hl => match us, hl with | [_, _, _, _], _ => rfl
  have F_best_piece := fun_mk (st := s_best_piece) l_best_piece k_best_piece p_best_piece
  have b_best_piece := F_best_piece.binds (ps := P_best_piece) fun _ _ _ _ _ _ us hl => match us, hl with | [_, _, _], _ => rfl
  have F_law_pool := fun_mk (st := s_law_pool) l_law_pool k_law_pool p_law_pool
  have b_law_pool := F_law_pool.binds (ps := P_law_pool) fun _ _ _ _ _ _ us hl => match us, hl with | [_], _ => rfl
  have F_law_draw := fun_mk (st := s_law_draw) l_law_draw k_law_draw p_law_draw
  have b_law_draw := F_law_draw.binds (ps := P_law_draw) fun _ _ _ _ _ _ us hl => match us, hl with | [_, _], _ => rfl
  have F_law_letters := fun_mk (st := s_law_letters) l_law_letters k_law_letters p_law_letters
  have b_law_letters := F_law_letters.binds (ps := P_law_letters) fun _ _ _ _ _ _ us hl => match us, hl with | [_, _], _ => rfl
  have F_law_text := fun_mk (st := s_law_text) l_law_text k_law_text p_law_text
  have b_law_text := F_law_text.binds (ps := P_law_text) fun _ _ _ _ _ _ us hl => match us, hl with | [_, _, _], _ => rfl
  have F_law_book := fun_mk (st := s_law_book) l_law_book k_law_book p_law_book
  have b_law_book := F_law_book.binds (ps := P_law_book) fun _ _ _ _ _ _ us hl => match us, hl with | [_, _, _], _ => rfl
  have F_law_machine := fun_mk (st := s_law_machine) l_law_machine k_law_machine p_law_machine
  have b_law_machine := F_law_machine.binds (ps := P_law_machine) fun _ _ _ _ _ _ us hl => match us, hl with | [_, _, _], _ => rfl
  have F_law_house := fun_mk (st := s_law_house) l_law_house k_law_house p_law_house
  have b_law_house := F_law_house.binds (ps := P_law_house) fun _ _ _ _ _ _ us hl => match us, hl with | [_, _, _], _ => rfl
  have F_law_full := fun_mk (st := s_law_full) l_law_full k_law_full p_law_full
  have b_law_full := F_law_full.binds (ps := P_law_full) fun _ _ _ _ _ _ us hl => match us, hl with | [_, _, _], _ => rfl
  have F_law_pair := fun_mk (st := s_law_pair) l_law_pair k_law_pair p_law_pair
  have b_law_pair := F_law_pair.binds (ps := P_law_pair) fun _ _ _ _ _ _ us hl => match us, hl with | [_], _ => rfl
  have F_law_ops := fun_mk (st := s_law_ops) l_law_ops k_law_ops p_law_ops
  have b_law_ops := F_law_ops.binds (ps := P_law_ops) fun _ _ _ _ _ _ us hl => match us, hl with | [_, _], _ => rfl
  have F_law_ahead := fun_mk (st := s_law_ahead) l_law_ahead k_law_ahead p_law_ahead
  have b_law_ahead := F_law_ahead.binds (ps := P_law_ahead) fun _ _ _ _ _ _ us hl => match us, hl with | [_, _, _, _], _ => rfl
  have F_law_same := fun_mk (st := s_law_same) l_law_same k_law_same p_law_same
  have b_law_same := F_law_same.binds (ps := P_law_same) fun _ _ _ _ _ _ us hl => match us, hl with | [_, _], _ => rfl
  have F_law_pieces := fun_mk (st := s_law_pieces) l_law_pieces k_law_pieces p_law_pieces
  have b_law_pieces := F_law_pieces.binds (ps := P_law_pieces) fun _ _ _ _ _ _ us hl => match us, hl with | [_, _, _], _ => rfl
  have F_law_asked := fun_mk (st := s_law_asked) l_law_asked k_law_asked p_law_asked
  have b_law_asked := F_law_asked.binds (ps := P_law_asked) fun _ _ _ _ _ _ us hl => match us, hl with | [_, _, _, _], _ => rfl
  have F_law_made := fun_mk (st := s_law_made) l_law_made k_law_made p_law_made
  have b_law_made := F_law_made.binds (ps := P_law_made) fun _ _ _ _ _ _ us hl => match us, hl with | [_], _ => rfl
  have F_law := fun_mk (st := s_law) l_law k_law p_law
  have b_law := F_law.binds (ps := P_law) fun _ _ _ _ _ _ us hl => match us, hl with | [_], _ => rfl
  refine ⟨PySem.W.fnOf "law" "law" (defArgs s_law) (defBody s_law) (defScope s_law) .none kV_law dc_law pm_law an_law cd_law ct_law, fun s v => .of_eq rfl, fun base _ _ => ok_law (P := l.prog) (w := w) (K := K) (g := mg) (base := base) {
    z_len := PySem.W.mg_none_of X G z_len,
    z_range := PySem.W.mg_none_of X G z_range,
    z_enumerate := PySem.W.mg_none_of X G z_enumerate,
    z_zip := PySem.W.mg_none_of X G z_zip,
    z_list := PySem.W.mg_none_of X G z_list,
    z_tuple := PySem.W.mg_none_of X G z_tuple,
    z_sorted := PySem.W.mg_none_of X G z_sorted,
    z_min := PySem.W.mg_none_of X G z_min,
    z_set := PySem.W.mg_none_of X G z_set,
    z_int := PySem.W.mg_none_of X G z_int,
    z_str := PySem.W.mg_none_of X G z_str,
    z_isinstance := PySem.W.mg_none_of X G z_isinstance,
    z_bool := PySem.W.mg_none_of X G z_bool,
    c_MoveWeb := c_MoveWeb,
    cl_MoveWeb := ⟨pg_MoveWeb, hd_MoveWeb, po_MoveWeb, sa_MoveWeb⟩,
    mg_MoveWeb := PySem.W.mg_of X G g_MoveWeb,
    na_MoveWeb_book := na_MoveWeb_book,
    na_MoveWeb_machine := na_MoveWeb_machine,
    na_MoveWeb_standings := na_MoveWeb_standings,
    na_MoveWeb_homes := na_MoveWeb_homes,
    na_MoveWeb_silent := na_MoveWeb_silent,
    na_MoveWeb_reading := na_MoveWeb_reading,
    d_steps_by_state := ⟨_, _, F_steps_by_state, PySem.W.mg_of X G a_steps_by_state, b_steps_by_state⟩,
    d_states_behind := ⟨_, _, F_states_behind, PySem.W.mg_of X G a_states_behind, b_states_behind⟩,
    d_states_along := ⟨_, _, F_states_along, PySem.W.mg_of X G a_states_along, b_states_along⟩,
    d_rests_of := ⟨_, _, F_rests_of, PySem.W.mg_of X G a_rests_of, b_rests_of⟩,
    d_MoveWeb_init := ⟨_, _, F_MoveWeb_init, ⟨a_MoveWeb_init, i_MoveWeb_init, p_MoveWeb_init⟩, b_MoveWeb_init⟩,
    mk_MoveWeb := ⟨mks_MoveWeb, a_MoveWeb_init, i_MoveWeb_init, kc_MoveWeb⟩,
    d_MoveWeb_put_moves := ⟨_, _, F_MoveWeb_put_moves, ⟨a_MoveWeb_put_moves, i_MoveWeb_put_moves, p_MoveWeb_put_moves⟩, b_MoveWeb_put_moves⟩,
    d_MoveWeb_put_edits := ⟨_, _, F_MoveWeb_put_edits, ⟨a_MoveWeb_put_edits, i_MoveWeb_put_edits, p_MoveWeb_put_edits⟩, b_MoveWeb_put_edits⟩,
    d_MoveWeb_is_end := ⟨_, _, F_MoveWeb_is_end, ⟨a_MoveWeb_is_end, i_MoveWeb_is_end, p_MoveWeb_is_end⟩, b_MoveWeb_is_end⟩,
    d_MoveWeb_ends := ⟨_, _, F_MoveWeb_ends, ⟨a_MoveWeb_ends, i_MoveWeb_ends, p_MoveWeb_ends⟩, b_MoveWeb_ends⟩,
    d_MoveWeb_closed := ⟨_, _, F_MoveWeb_closed, ⟨a_MoveWeb_closed, i_MoveWeb_closed, p_MoveWeb_closed⟩, b_MoveWeb_closed⟩,
    d_MoveWeb_behind := ⟨_, _, F_MoveWeb_behind, ⟨a_MoveWeb_behind, i_MoveWeb_behind, p_MoveWeb_behind⟩, b_MoveWeb_behind⟩,
    d_better := ⟨_, _, F_better, PySem.W.mg_of X G a_better, b_better⟩,
    d_closed_pairs := ⟨_, _, F_closed_pairs, PySem.W.mg_of X G a_closed_pairs, b_closed_pairs⟩,
    d_pairs_behind := ⟨_, _, F_pairs_behind, PySem.W.mg_of X G a_pairs_behind, b_pairs_behind⟩,
    d_found_pieces := ⟨_, _, F_found_pieces, PySem.W.mg_of X G a_found_pieces, b_found_pieces⟩,
    d_best_piece := ⟨_, _, F_best_piece, PySem.W.mg_of X G a_best_piece, b_best_piece⟩,
    d_law_pool := ⟨_, _, F_law_pool, PySem.W.mg_of X G a_law_pool, b_law_pool⟩,
    d_law_draw := ⟨_, _, F_law_draw, PySem.W.mg_of X G a_law_draw, b_law_draw⟩,
    d_law_letters := ⟨_, _, F_law_letters, PySem.W.mg_of X G a_law_letters, b_law_letters⟩,
    d_law_text := ⟨_, _, F_law_text, PySem.W.mg_of X G a_law_text, b_law_text⟩,
    d_law_book := ⟨_, _, F_law_book, PySem.W.mg_of X G a_law_book, b_law_book⟩,
    d_law_machine := ⟨_, _, F_law_machine, PySem.W.mg_of X G a_law_machine, b_law_machine⟩,
    d_law_house := ⟨_, _, F_law_house, PySem.W.mg_of X G a_law_house, b_law_house⟩,
    d_law_full := ⟨_, _, F_law_full, PySem.W.mg_of X G a_law_full, b_law_full⟩,
    d_law_pair := ⟨_, _, F_law_pair, PySem.W.mg_of X G a_law_pair, b_law_pair⟩,
    d_law_ops := ⟨_, _, F_law_ops, PySem.W.mg_of X G a_law_ops, b_law_ops⟩,
    d_law_ahead := ⟨_, _, F_law_ahead, PySem.W.mg_of X G a_law_ahead, b_law_ahead⟩,
    d_law_same := ⟨_, _, F_law_same, PySem.W.mg_of X G a_law_same, b_law_same⟩,
    d_law_pieces := ⟨_, _, F_law_pieces, PySem.W.mg_of X G a_law_pieces, b_law_pieces⟩,
    d_law_asked := ⟨_, _, F_law_asked, PySem.W.mg_of X G a_law_asked, b_law_asked⟩,
    d_law_made := ⟨_, _, F_law_made, PySem.W.mg_of X G a_law_made, b_law_made⟩,
    d_law := ⟨_, _, F_law, PySem.W.mg_of X G a_law, b_law⟩ }⟩
theorem walk {l : PySem.W.OpenLaw} {q : Program} {loose : List Str} {XP : (Str → Option Value) → Heap → Prop} {YP : World → Heap → Prop} {d : DefRec} {K : Params → PySem.W.Frag} (hn : l.most = some 63) (hdf : d.params.defaults = [])
    (hY : ∀ (w : World) (h : Heap), YP w h → (K w.params).In h)
    (F : ∀ (w : World) (mg : Str → Option Value) (fa : Addr) (h : Heap), (K w.params).In h → h.Ns mainGlobals mg → mg d.name = some (.ref fa) →
      ∃ fd : FuncData, (∀ (s : Shared) (u : Value), BindsTo s fd ⟨[u], []⟩ [("script", u)]) ∧ ∀ base : Heap, (K w.params).In base → base.Ns mainGlobals mg → FnOk l.prog w (K w.params) mg base CX0 11 fa fd ["script"] (spLaw (K w.params))) :
    PySem.W.WalkO q loose XP YP l.row.toRowW d [] (fun f vs => PySem.call f vs) :=
  L2.walk_of (n := 63) (k := 11) (x := "script") (CX := fun _ => CX0) (sp := fun w => spLaw (K w.params)) hn (by decide) hdf ⟨rfl, by decide, by decide⟩ hY F (fun _ _ a ns hl _ hS => ⟨a, ns, rfl, hS, hl, fun _ => rfl⟩) fun _ _ _ _ _ z => z
end Fm

open PySem PySem.W PyProof.Rows in
set_option maxRecDepth 100000 in
set_option maxHeartbeats 0 in
theorem PySem.Challenge.cw_fewmends_k77_whole_finding_holds : PySem.Challenge.rw_fewmends_k77_whole_finding.Holds := by
  w_on; o_law; k_head; (case hw => w_witness2)
  k_fill
  refine Fm.walk (l := PySem.Challenge.rw_fewmends_k77_whole_finding) rfl rfl (fun w h Y => PySem.W.kIn_of Y) ?F
  case F =>
    intro w mg fa h KX G hmg
    refine' Fm.all_mk KX G hmg ?z_len ?z_range ?z_enumerate ?z_zip ?z_list ?z_tuple ?z_sorted ?z_min ?z_set ?z_int ?z_str ?z_isinstance ?z_bool ?g_MoveWeb ?pg_MoveWeb ?hd_MoveWeb ?po_MoveWeb ?sa_MoveWeb ?mks_MoveWeb ?kc_MoveWeb ?na_MoveWeb_book ?na_MoveWeb_machine ?na_MoveWeb_standings ?na_MoveWeb_homes ?na_MoveWeb_silent ?na_MoveWeb_reading ?a_steps_by_state ?l_steps_by_state ?k_steps_by_state ?p_steps_by_state ?a_states_behind ?l_states_behind ?k_states_behind ?p_states_behind ?a_states_along ?l_states_along ?k_states_along ?p_states_along ?a_rests_of ?l_rests_of ?k_rests_of ?p_rests_of ?a_MoveWeb_init ?i_MoveWeb_init ?l_MoveWeb_init ?k_MoveWeb_init ?p_MoveWeb_init ?a_MoveWeb_put_moves ?i_MoveWeb_put_moves ?l_MoveWeb_put_moves ?k_MoveWeb_put_moves ?p_MoveWeb_put_moves ?a_MoveWeb_put_edits ?i_MoveWeb_put_edits ?l_MoveWeb_put_edits ?k_MoveWeb_put_edits ?p_MoveWeb_put_edits ?a_MoveWeb_is_end ?i_MoveWeb_is_end ?l_MoveWeb_is_end ?k_MoveWeb_is_end ?p_MoveWeb_is_end ?a_MoveWeb_ends ?i_MoveWeb_ends ?l_MoveWeb_ends ?k_MoveWeb_ends ?p_MoveWeb_ends ?a_MoveWeb_closed ?i_MoveWeb_closed ?l_MoveWeb_closed ?k_MoveWeb_closed ?p_MoveWeb_closed ?a_MoveWeb_behind ?i_MoveWeb_behind ?l_MoveWeb_behind ?k_MoveWeb_behind ?p_MoveWeb_behind ?a_better ?l_better ?k_better ?p_better ?a_closed_pairs ?l_closed_pairs ?k_closed_pairs ?p_closed_pairs ?a_pairs_behind ?l_pairs_behind ?k_pairs_behind ?p_pairs_behind ?a_found_pieces ?l_found_pieces ?k_found_pieces ?p_found_pieces ?a_best_piece ?l_best_piece ?k_best_piece ?p_best_piece ?a_law_pool ?l_law_pool ?k_law_pool ?p_law_pool ?a_law_draw ?l_law_draw ?k_law_draw ?p_law_draw ?a_law_letters ?l_law_letters ?k_law_letters ?p_law_letters ?a_law_text ?l_law_text ?k_law_text ?p_law_text ?a_law_book ?l_law_book ?k_law_book ?p_law_book ?a_law_machine ?l_law_machine ?k_law_machine ?p_law_machine ?a_law_house ?l_law_house ?k_law_house ?p_law_house ?a_law_full ?l_law_full ?k_law_full ?p_law_full ?a_law_pair ?l_law_pair ?k_law_pair ?p_law_pair ?a_law_ops ?l_law_ops ?k_law_ops ?p_law_ops ?a_law_ahead ?l_law_ahead ?k_law_ahead ?p_law_ahead ?a_law_same ?l_law_same ?k_law_same ?p_law_same ?a_law_pieces ?l_law_pieces ?k_law_pieces ?p_law_pieces ?a_law_asked ?l_law_asked ?k_law_asked ?p_law_asked ?a_law_made ?l_law_made ?k_law_made ?p_law_made ?a_law ?l_law ?k_law ?p_law
    (case z_len => k_is)
    (case z_range => k_is)
    (case z_enumerate => k_is)
    (case z_zip => k_is)
    (case z_list => k_is)
    (case z_tuple => k_is)
    (case z_sorted => k_is)
    (case z_min => k_is)
    (case z_set => k_is)
    (case z_int => k_is)
    (case z_str => k_is)
    (case z_isinstance => k_is)
    (case z_bool => k_is)
    (case g_MoveWeb => k_is)
    (case pg_MoveWeb => k_is)
    (case hd_MoveWeb => k_is)
    (case po_MoveWeb => k_is)
    (case sa_MoveWeb => k_is)
    (case mks_MoveWeb => k_is)
    (case kc_MoveWeb => k_is)
    (case na_MoveWeb_book => k_is)
    (case na_MoveWeb_machine => k_is)
    (case na_MoveWeb_standings => k_is)
    (case na_MoveWeb_homes => k_is)
    (case na_MoveWeb_silent => k_is)
    (case na_MoveWeb_reading => k_is)
    (case a_steps_by_state => k_is)
    (case l_steps_by_state => k_is)
    (case k_steps_by_state => k_is)
    (case p_steps_by_state => k_is)
    (case a_states_behind => k_is)
    (case l_states_behind => k_is)
    (case k_states_behind => k_is)
    (case p_states_behind => k_is)
    (case a_states_along => k_is)
    (case l_states_along => k_is)
    (case k_states_along => k_is)
    (case p_states_along => k_is)
    (case a_rests_of => k_is)
    (case l_rests_of => k_is)
    (case k_rests_of => k_is)
    (case p_rests_of => k_is)
    (case a_MoveWeb_init => k_is)
    (case i_MoveWeb_init => k_is)
    (case l_MoveWeb_init => k_is)
    (case k_MoveWeb_init => k_is)
    (case p_MoveWeb_init => k_is)
    (case a_MoveWeb_put_moves => k_is)
    (case i_MoveWeb_put_moves => k_is)
    (case l_MoveWeb_put_moves => k_is)
    (case k_MoveWeb_put_moves => k_is)
    (case p_MoveWeb_put_moves => k_is)
    (case a_MoveWeb_put_edits => k_is)
    (case i_MoveWeb_put_edits => k_is)
    (case l_MoveWeb_put_edits => k_is)
    (case k_MoveWeb_put_edits => k_is)
    (case p_MoveWeb_put_edits => k_is)
    (case a_MoveWeb_is_end => k_is)
    (case i_MoveWeb_is_end => k_is)
    (case l_MoveWeb_is_end => k_is)
    (case k_MoveWeb_is_end => k_is)
    (case p_MoveWeb_is_end => k_is)
    (case a_MoveWeb_ends => k_is)
    (case i_MoveWeb_ends => k_is)
    (case l_MoveWeb_ends => k_is)
    (case k_MoveWeb_ends => k_is)
    (case p_MoveWeb_ends => k_is)
    (case a_MoveWeb_closed => k_is)
    (case i_MoveWeb_closed => k_is)
    (case l_MoveWeb_closed => k_is)
    (case k_MoveWeb_closed => k_is)
    (case p_MoveWeb_closed => k_is)
    (case a_MoveWeb_behind => k_is)
    (case i_MoveWeb_behind => k_is)
    (case l_MoveWeb_behind => k_is)
    (case k_MoveWeb_behind => k_is)
    (case p_MoveWeb_behind => k_is)
    (case a_better => k_is)
    (case l_better => k_is)
    (case k_better => k_is)
    (case p_better => k_is)
    (case a_closed_pairs => k_is)
    (case l_closed_pairs => k_is)
    (case k_closed_pairs => k_is)
    (case p_closed_pairs => k_is)
    (case a_pairs_behind => k_is)
    (case l_pairs_behind => k_is)
    (case k_pairs_behind => k_is)
    (case p_pairs_behind => k_is)
    (case a_found_pieces => k_is)
    (case l_found_pieces => k_is)
    (case k_found_pieces => k_is)
    (case p_found_pieces => k_is)
    (case a_best_piece => k_is)
    (case l_best_piece => k_is)
    (case k_best_piece => k_is)
    (case p_best_piece => k_is)
    (case a_law_pool => k_is)
    (case l_law_pool => k_is)
    (case k_law_pool => k_is)
    (case p_law_pool => k_is)
    (case a_law_draw => k_is)
    (case l_law_draw => k_is)
    (case k_law_draw => k_is)
    (case p_law_draw => k_is)
    (case a_law_letters => k_is)
    (case l_law_letters => k_is)
    (case k_law_letters => k_is)
    (case p_law_letters => k_is)
    (case a_law_text => k_is)
    (case l_law_text => k_is)
    (case k_law_text => k_is)
    (case p_law_text => k_is)
    (case a_law_book => k_is)
    (case l_law_book => k_is)
    (case k_law_book => k_is)
    (case p_law_book => k_is)
    (case a_law_machine => k_is)
    (case l_law_machine => k_is)
    (case k_law_machine => k_is)
    (case p_law_machine => k_is)
    (case a_law_house => k_is)
    (case l_law_house => k_is)
    (case k_law_house => k_is)
    (case p_law_house => k_is)
    (case a_law_full => k_is)
    (case l_law_full => k_is)
    (case k_law_full => k_is)
    (case p_law_full => k_is)
    (case a_law_pair => k_is)
    (case l_law_pair => k_is)
    (case k_law_pair => k_is)
    (case p_law_pair => k_is)
    (case a_law_ops => k_is)
    (case l_law_ops => k_is)
    (case k_law_ops => k_is)
    (case p_law_ops => k_is)
    (case a_law_ahead => k_is)
    (case l_law_ahead => k_is)
    (case k_law_ahead => k_is)
    (case p_law_ahead => k_is)
    (case a_law_same => k_is)
    (case l_law_same => k_is)
    (case k_law_same => k_is)
    (case p_law_same => k_is)
    (case a_law_pieces => k_is)
    (case l_law_pieces => k_is)
    (case k_law_pieces => k_is)
    (case p_law_pieces => k_is)
    (case a_law_asked => k_is)
    (case l_law_asked => k_is)
    (case k_law_asked => k_is)
    (case p_law_asked => k_is)
    (case a_law_made => k_is)
    (case l_law_made => k_is)
    (case k_law_made => k_is)
    (case p_law_made => k_is)
    (case a_law => k_is)
    (case l_law => k_is)
    (case k_law => k_is)
    (case p_law => k_is)
