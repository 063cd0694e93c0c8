import PyProof.Rows.All
import Wide.All
import OpenK.AllK
import Wide.FinOn
import HandS.ForMost
import HandS.Evl
import HandS.Zip
import HandS.DictComp
import HandS.Style
import HandS.IsInst
import HandS.SortInts
import HandS.Wide
import HandS.More
import PySem.Challenge.RW_fewmends_k79_whole_phones
import HandS.Codes
import HandS.TupSets
import HandS.SortOrd
import KE.KSortTupG
import HandS.Strs
import PyProof.ListStr
import HandS.Walk
import HandS.Conv
import KE.KDictDisplayH
import PyProof.StrBlock2
import PyProof.Rows.StrJoinRep
import HandS.SetTxt0
import HandS.RevRange
import HandS.StrMore
import PyProof.Rows.StrMeet
import HandS.Iter
set_option Elab.async false
set_option linter.all false
set_option autoImplicit false
set_option maxRecDepth 100000
set_option maxHeartbeats 4000000
/-! typed readings over the hand layer -/
namespace Fm
open PySem L2
/-- all but the objects at M stands; tuples stand always -/
structure Fx (M : List Addr) (H H' : Hp) : Prop where
  keep : ∀ a o, a ∉ M → H a = some o → H' a = some o
  tups : ∀ a xs, H a = some (.tup xs) → H' a = some (.tup xs)
abbrev Fe (H H' : Hp) : Prop := Fx [] H H'
theorem Fx.refl (M : List Addr) (H : Hp) : Fx M H H := ⟨fun _ _ _ h => h, fun _ _ h => h⟩
theorem Fx.trans {M : List Addr} {H H1 H2 : Hp} (a : Fx M H H1) (b : Fx M H1 H2) : Fx M H H2 :=
  ⟨fun c o n h => b.keep c o n (a.keep c o n h), fun c xs h => b.tups c xs (a.tups c xs h)⟩
theorem Fx.wk {M N : List Addr} {H H' : Hp} (a : Fx M H H') (s : ∀ x ∈ M, x ∈ N) : Fx N H H' :=
  ⟨fun c o n h => a.keep c o (fun q => n (s c q)) h, a.tups⟩
theorem Fx.to {M : List Addr} {H H' : Hp} (a : Fe H H') : Fx M H H' := a.wk (fun _ q => nomatch q)
theorem Fx.k {H H' : Hp} (a : Fe H H') {p : Addr} {o : HO} (h : H p = some o) : H' p = some o := a.keep p o (fun q => nomatch q) h
theorem Fe.new {H : Hp} {p : Addr} {o : HO} (hp : H p = none) : Fe H (upd H p o) :=
  ⟨fun a o' _ h => by rw [upd_ne (ne_of_none h hp)]; exact h, fun a xs h => by rw [upd_ne (ne_of_none h hp)]; exact h⟩
/-- an object that is no tuple is written -/
theorem Fx.put {M : List Addr} {H : Hp} {p : Addr} {o u : HO} (hp : H p = some u) (hM : p ∈ M) (hu : ∀ xs, u ≠ .tup xs) : Fx M H (upd H p o) :=
  ⟨fun a o' n h => by rw [upd_ne (fun e => n (by rw [e]; exact hM))]; exact h,
   fun a xs h => by rw [upd_ne (fun e => by rw [e, hp] at h; exact hu xs (Option.some.inj h))]; exact h⟩
/-- an object that H did not know is written: for H nothing has changed -/
theorem Fx.mut {H H' : Hp} {p : Addr} {o : HO} (e : Fe H H') (hp : H p = none) : Fe H (upd H' p o) :=
  ⟨fun a o' _ h => by rw [upd_ne (ne_of_none h hp)]; exact e.k h, fun a xs h => by rw [upd_ne (ne_of_none h hp)]; exact e.k h⟩
theorem Fx.free {H H' : Hp} (e : Fe H H') {p : Addr} (h : H' p = none) : H p = none := by
  cases q : H p with
  | none => rfl
  | some o => rw [e.k q] at h; cases h
theorem Fx.same {H H' : Hp} (e : Fe H H') : Same H H' := fun b o h => e.k h
theorem Same.fe {H H' : Hp} (e : Same H H') : Fe H H' := ⟨fun b o _ h => e b o h, fun b xs h => e b _ h⟩

/-! ### data by values -/
abbrev Rp (α : Type) := Hp → V → α → Prop
class Mo {α : Type} (r : Rp α) : Prop where
  mo : ∀ {M : List Addr} {H H' : Hp} {v : V} {x : α}, Fx M H H' → r H v x → r H' v x
def rI : Rp Int := fun _ v i => v = .int i
def rN : Rp Nat := fun _ v n => v = .int (n : Int)
def rB : Rp Bool := fun _ v b => v = .bl b
/-- a text by its codes -/
def rS : Rp (List Nat) := fun _ v l => v = .str ⟨l.toArray⟩
def rX : Rp Unit := fun _ _ _ => True
def rO {α : Type} (r : Rp α) : Rp (Option α) := fun H v o => match o with
  | none => v = .non
  | some x => r H v x
def rP {α β : Type} (r : Rp α) (q : Rp β) : Rp (α × β) := fun H v p => ∃ a x y, v = .ref a ∧ H a = some (.tup [x, y]) ∧ r H x p.1 ∧ q H y p.2
def rP3 {α β γ : Type} (r : Rp α) (q : Rp β) (t : Rp γ) : Rp (α × β × γ) := fun H v p => ∃ a x y z, v = .ref a ∧ H a = some (.tup [x, y, z]) ∧ r H x p.1 ∧ q H y p.2.1 ∧ t H z p.2.2
abbrev Al {α : Type} (r : Rp α) (H : Hp) : List V → List α → Prop := Paired (r H)
/-- a tuple, item by item -/
def rT {α : Type} (r : Rp α) : Rp (List α) := fun H v l => ∃ a xs, v = .ref a ∧ H a = some (.tup xs) ∧ Al r H xs l
instance : Mo rI := ⟨fun _ h => h⟩
instance : Mo rN := ⟨fun _ h => h⟩
instance : Mo rB := ⟨fun _ h => h⟩
instance : Mo rS := ⟨fun _ h => h⟩
instance : Mo rX := ⟨fun _ h => h⟩
instance {α : Type} {r : Rp α} [Mo r] : Mo (rO r) := ⟨fun {_ _ _ _ x} f h => by
  cases x with
  | none => exact h
  | some y => exact Mo.mo (r := r) f h⟩
instance {α β : Type} {r : Rp α} {q : Rp β} [Mo r] [Mo q] : Mo (rP r q) :=
  ⟨fun f ⟨a, x, y, e, h, h1, h2⟩ => ⟨a, x, y, e, f.tups _ _ h, Mo.mo (r := r) f h1, Mo.mo (r := q) f h2⟩⟩
instance {α β γ : Type} {r : Rp α} {q : Rp β} {t : Rp γ} [Mo r] [Mo q] [Mo t] : Mo (rP3 r q t) :=
  ⟨fun f ⟨a, x, y, z, e, h, h1, h2, h3⟩ => ⟨a, x, y, z, e, f.tups _ _ h, Mo.mo (r := r) f h1, Mo.mo (r := q) f h2, Mo.mo (r := t) f h3⟩⟩
theorem Al.mo {α : Type} {r : Rp α} [Mo r] {M : List Addr} {H H' : Hp} {xs : List V} {l : List α} (f : Fx M H H') (h : Al r H xs l) : Al r H' xs l := L2.Paired.mapP h fun _ _ q => Mo.mo (r := r) f q
instance {α : Type} {r : Rp α} [Mo r] : Mo (rT r) := ⟨fun f ⟨a, xs, e, h, h1⟩ => ⟨a, xs, e, f.tups _ _ h, Al.mo f h1⟩⟩
/-- a list, item by item (read only: it stands while nobody writes it) -/
def rL {α : Type} (r : Rp α) : Rp (List α) := fun H v l => ∃ a xs, v = .ref a ∧ H a = some (.lst xs) ∧ Al r H xs l
/-- data that stand while nothing that was known is written -/
class Me {α : Type} (r : Rp α) : Prop where
  me : ∀ {H H' : Hp} {v : V} {x : α}, Fe H H' → r H v x → r H' v x
instance (priority := low) {α : Type} {r : Rp α} [Mo r] : Me r := ⟨fun f h => Mo.mo (r := r) f h⟩
theorem Al.me {α : Type} {r : Rp α} [Me r] {H H' : Hp} {xs : List V} {l : List α} (f : Fe H H') (h : Al r H xs l) : Al r H' xs l := L2.Paired.mapP h fun _ _ q => Me.me (r := r) f q
instance {α : Type} {r : Rp α} [Me r] : Me (rL r) := ⟨fun f ⟨a, xs, e, h, h1⟩ => ⟨a, xs, e, f.k h, Al.me f h1⟩⟩
instance {α : Type} {r : Rp α} [Me r] : Me (rT r) := ⟨fun f ⟨a, xs, e, h, h1⟩ => ⟨a, xs, e, f.k h, Al.me f h1⟩⟩
instance {α β : Type} {r : Rp α} {q : Rp β} [Me r] [Me q] : Me (rP r q) :=
  ⟨fun f ⟨a, x, y, e, h, h1, h2⟩ => ⟨a, x, y, e, f.k h, Me.me (r := r) f h1, Me.me (r := q) f h2⟩⟩
instance {α β γ : Type} {r : Rp α} {q : Rp β} {t : Rp γ} [Me r] [Me q] [Me t] : Me (rP3 r q t) :=
  ⟨fun f ⟨a, x, y, z, e, h, h1, h2, h3⟩ => ⟨a, x, y, z, e, f.k h, Me.me (r := r) f h1, Me.me (r := q) f h2, Me.me (r := t) f h3⟩⟩
instance {α : Type} {r : Rp α} [Me r] : Me (rO r) := ⟨fun {_ _ _ x} f h => by
  cases x with
  | none => exact h
  | some y => exact Me.me (r := r) f h⟩
theorem Me.go {α : Type} {r : Rp α} [Me r] {H H' : Hp} {v : V} {x : α} (h : r H v x) (f : Fe H H') : r H' v x := Me.me (r := r) f h
theorem Al.len {α : Type} {r : Rp α} {H : Hp} {xs : List V} {l : List α} (h : Al r H xs l) : xs.length = l.length := Paired.length h
theorem Al.get {α : Type} {r : Rp α} {H : Hp} : ∀ {xs : List V} {l : List α}, Al r H xs l → ∀ {i : Nat} {x : V}, xs[i]? = some x → ∃ y, l[i]? = some y ∧ r H x y
  | _, _, .nil, i, x, e => by cases i <;> cases e
  | _, _, .cons h t, 0, x, e => by cases e; exact ⟨_, rfl, h⟩
  | _, _, .cons h t, i + 1, x, e => Al.get t (i := i) (x := x) e
theorem Al.at {α : Type} {r : Rp α} {H : Hp} : ∀ {xs : List V} {l : List α}, Al r H xs l → ∀ {i : Nat} {y : α}, l[i]? = some y → ∃ x, xs[i]? = some x ∧ r H x y
  | _, _, .nil, i, x, e => by cases i <;> cases e
  | _, _, .cons h t, 0, x, e => by cases e; exact ⟨_, rfl, h⟩
  | _, _, .cons h t, i + 1, x, e => Al.at t (i := i) (y := x) e
theorem Al.snoc {α : Type} {r : Rp α} {H : Hp} {x : V} {y : α} (q : r H x y) : ∀ {xs : List V} {l : List α}, Al r H xs l → Al r H (xs ++ [x]) (l ++ [y])
  | _, _, .nil => .cons q .nil
  | _, _, .cons h t => .cons h (Al.snoc q t)
theorem Al.set {α : Type} {r : Rp α} {H : Hp} {x : V} {y : α} (q : r H x y) : ∀ {xs : List V} {l : List α} (i : Nat), Al r H xs l → Al r H (xs.set i x) (l.set i y)
  | _, _, _, .nil => .nil
  | _, _, 0, .cons h t => .cons q t
  | _, _, i + 1, .cons h t => .cons h (Al.set q i t)
theorem Al.app {α : Type} {r : Rp α} {H : Hp} : ∀ {xs ys : List V} {l m : List α}, Al r H xs l → Al r H ys m → Al r H (xs ++ ys) (l ++ m)
  | _, _, _, _, .nil, s => s
  | _, _, _, _, .cons h t, s => .cons h (Al.app t s)
theorem Al.ints {H : Hp} : ∀ {xs : List V} {l : List Int}, Al rI H xs l → xs = l.map V.int
  | _, _, .nil => rfl
  | _, _, .cons h t => by rw [List.map_cons, ← Al.ints t, h]
theorem Al.ofInts {H : Hp} : ∀ l : List Int, Al rI H (l.map V.int) l
  | [] => .nil
  | x :: l => .cons rfl (Al.ofInts l)
theorem Al.nats {H : Hp} : ∀ {xs : List V} {l : List Nat}, Al rN H xs l → xs = l.map fun n : Nat => V.int (n : Int)
  | _, _, .nil => rfl
  | _, _, .cons h t => by rw [List.map_cons, ← Al.nats t, h]
theorem Al.ofNats {H : Hp} : ∀ l : List Nat, Al rN H (l.map fun n : Nat => V.int (n : Int)) l
  | [] => .nil
  | x :: l => .cons rfl (Al.ofNats l)
theorem Al.bools {H : Hp} : ∀ {xs : List V} {l : List Bool}, Al rB H xs l → xs = l.map V.bl
  | _, _, .nil => rfl
  | _, _, .cons h t => by rw [List.map_cons, ← Al.bools t, h]
theorem Al.ofBools {H : Hp} : ∀ l : List Bool, Al rB H (l.map V.bl) l
  | [] => .nil
  | x :: l => .cons rfl (Al.ofBools l)

/-! ### defs of the text, as the top leaves them -/
structure Def (K : PySem.W.Frag) (g : Str → Option Value) (name qual : Str) (st : Stmt) (ps : List Str) where
  f : Addr
  fd : FuncData
  F : Fun K name qual st f fd
  mg : g name = some (.ref f)
  b : Binds K fd ps []
abbrev Def.kp {K : PySem.W.Frag} {g : Str → Option Value} {name qual : Str} {st : Stmt} {ps : List Str} (d : Def K g name qual st ps) := d.F.kp
structure DefM (K : PySem.W.Frag) (C : Addr) (name qual : Str) (st : Stmt) (ps : List Str) where
  f : Addr
  fd : FuncData
  F : Fun K name qual st f fd
  m : Meth K C name f
  b : Binds K fd ps []
abbrev DefM.kp {K : PySem.W.Frag} {C : Addr} {name qual : Str} {st : Stmt} {ps : List Str} (d : DefM K C name qual st ps) := d.F.kp

/-- the int in a slot -/
def slotI (σ : L2.St) (i : Nat) : Int := match σ[i]? with
  | some (some (V.int k)) => k
  | _ => 0
/-! ### loops by a running value -/
section
variable {K : PySem.W.Frag} {tb : TS} {D : Ends} {σ : L2.St} {H : Hp} {α : Type} {g : TG}
/-- over a list that stands: Inv says what holds behind i turns -/
theorem for_lst {a : Addr} {xs : List V} (Pv : Nat → L2.St → Hp → Prop) (h0 : Pv 0 σ H) (hl : ∀ i σ' H', i ≤ xs.length → Pv i σ' H' → H' a = some (.lst xs))
    (hs : ∀ i x σ' H', xs[i]? = some x → Pv i σ' H' → g x σ' H' fun σ2 H2 => tb { D with nx := Pv (i + 1), ct := Pv (i + 1), bk := D.nx } σ2 H2) (hd : ∀ σ' H', Pv xs.length σ' H' → D.nx σ' H') :
    ∃ W : Nat → Nat → L2.St → Hp → Prop, (∃ m, W 0 m σ H) ∧ ∀ i m σ H, W i m σ H →
      ((Itl K a).stop i H ∧ D.nx σ H) ∨ ((Itl K a).go i H ∧ ∃ N : L2.St → Hp → Prop, (∀ σ' H', N σ' H' → ∃ m', m' < m ∧ W (i + 1) m' σ' H') ∧ ∀ x H', (Itl K a).yld i H x H' → g x σ H' fun σ2 H2 => tb { D with nx := N, ct := N, bk := D.nx } σ2 H2) :=
  for_list (K := K) (xs := xs) Pv h0 (fun i σ' H' hi h => SqL.of (hl i σ' H' hi h)) hs hd
/-- over a text's signs -/
theorem for_str {l : List Nat} (Pv : Nat → L2.St → Hp → Prop) (h0 : Pv 0 σ H)
    (hs : ∀ i c σ' H', l[i]? = some c → Pv i σ' H' → g (.str ⟨#[c]⟩) σ' H' fun σ2 H2 => tb { D with nx := Pv (i + 1), ct := Pv (i + 1), bk := D.nx } σ2 H2) (hd : ∀ σ' H', Pv l.length σ' H' → D.nx σ' H') :
    ∃ W : Nat → Nat → L2.St → Hp → Prop, (∃ m, W 0 m σ H) ∧ ∀ i m σ H, W i m σ H →
      ((Its ⟨l.toArray⟩).stop i H ∧ D.nx σ H) ∨ ((Its ⟨l.toArray⟩).go i H ∧ ∃ N : L2.St → Hp → Prop, (∀ σ' H', N σ' H' → ∃ m', m' < m ∧ W (i + 1) m' σ' H') ∧ ∀ x H', (Its ⟨l.toArray⟩).yld i H x H' → g x σ H' fun σ2 H2 => tb { D with nx := N, ct := N, bk := D.nx } σ2 H2) := by
  refine ⟨fun i m σ' H' => i + m = l.length ∧ Pv i σ' H', ⟨l.length, by omega, h0⟩, ?_⟩
  rintro i m σ' H' ⟨e, h⟩
  by_cases hi : i < l.length
  · refine .inr ⟨by show i < (l.toArray).size; rw [List.size_toArray]; exact hi, fun σ2 H2 => Pv (i + 1) σ2 H2, fun σ2 H2 q => ⟨m - 1, by omega, by omega, q⟩, ?_⟩
    rintro x H2 ⟨rfl, c, hc, rfl⟩
    refine hs i c σ' _ ?_ h
    have hc' : l.toArray[i]? = some c := hc
    rw [List.getElem?_toArray] at hc'
    exact hc'
  · refine .inl ⟨by show (l.toArray).size ≤ i; rw [List.size_toArray]; omega, ?_⟩
    have e2 : i = l.length := by omega
    rw [e2] at h
    exact hd _ _ h
/-- over enumerate of a list that stands -/
theorem for_enum {a : Addr} {xs : List V} (Pv : Nat → L2.St → Hp → Prop) (h0 : Pv 0 σ H) (hl : ∀ i σ' H', i ≤ xs.length → Pv i σ' H' → H' a = some (.lst xs))
    (hs : ∀ i x σ' H' T, xs[i]? = some x → Pv i σ' H' → H' T = none → g (.ref T) σ' (upd H' T (.tup [.int (i : Int), x])) fun σ2 H2 => tb { D with nx := Pv (i + 1), ct := Pv (i + 1), bk := D.nx } σ2 H2) (hd : ∀ σ' H', Pv xs.length σ' H' → D.nx σ' H') :
    ∃ W : Nat → Nat → L2.St → Hp → Prop, (∃ m, W 0 m σ H) ∧ ∀ i m σ H, W i m σ H →
      ((Ite K a).stop i H ∧ D.nx σ H) ∨ ((Ite K a).go i H ∧ ∃ N : L2.St → Hp → Prop, (∀ σ' H', N σ' H' → ∃ m', m' < m ∧ W (i + 1) m' σ' H') ∧ ∀ x H', (Ite K a).yld i H x H' → g x σ H' fun σ2 H2 => tb { D with nx := N, ct := N, bk := D.nx } σ2 H2) := by
  refine ⟨fun i m σ' H' => i + m = xs.length ∧ Pv i σ' H', ⟨xs.length, by omega, h0⟩, ?_⟩
  rintro i m σ' H' ⟨e, h⟩
  have hL := hl i σ' H' (by omega) h
  by_cases hi : i < xs.length
  · have hx : xs[i]? = some xs[i] := List.getElem?_eq_getElem hi
    refine .inr ⟨⟨xs, xs[i], SqL.of hL, hx⟩, fun σ2 H2 => Pv (i + 1) σ2 H2, fun σ2 H2 q => ⟨m - 1, by omega, by omega, q⟩, ?_⟩
    rintro v H2 ⟨T, x, rfl, hT, rfl, hx2⟩
    exact hs i x σ' H' T (hx2 xs (SqL.of hL)) h hT
  · have e2 : i = xs.length := by omega
    subst e2
    exact .inl ⟨⟨xs, SqL.of hL, Nat.le_refl _⟩, hd _ _ h⟩
end
end Fm
/-! lists of own lists (rows that a def fills) -/
namespace Fm
open PySem L2
/-- at p a list of lists of our own, made since H0: their rows -/
structure Mat {α : Type} (r : Rp α) (H0 H : Hp) (p : Addr) (qs : List Addr) (rows : List (List α)) : Prop where
  at_ : H p = some (.lst (qs.map V.ref))
  nd : qs.Nodup
  ne : p ∉ qs
  new : ∀ q ∈ qs, H0 q = none
  newp : H0 p = none
  len : qs.length = rows.length
  row : ∀ (i : Nat) (q : Addr) (row : List α), qs[i]? = some q → rows[i]? = some row → ∃ xs, H q = some (.lst xs) ∧ Al r H xs row
theorem Mat.get {α : Type} {r : Rp α} {H0 H : Hp} {p : Addr} {qs : List Addr} {rows : List (List α)} (M : Mat r H0 H p qs rows) {i : Nat} {row : List α} (h : rows[i]? = some row) :
    ∃ q xs, qs[i]? = some q ∧ q ∈ qs ∧ H q = some (.lst xs) ∧ Al r H xs row := by
  have hi : i < qs.length := by rw [M.len]; exact (List.getElem?_eq_some_iff.mp h).1
  have hq : qs[i]? = some qs[i] := List.getElem?_eq_getElem hi
  obtain ⟨xs, h1, h2⟩ := M.row i _ row hq h
  exact ⟨qs[i], xs, hq, List.getElem_mem hi, h1, h2⟩
/-- the rows stand where only things unknown to them, or objects that are not theirs, are written -/
theorem Mat.keep {α : Type} {r : Rp α} [Mo r] {H0 H H' : Hp} {p : Addr} {qs : List Addr} {rows : List (List α)} (M : Mat r H0 H p qs rows) {L : List Addr} (f : Fx L H H') (hp : p ∉ L) (hq : ∀ q ∈ qs, q ∉ L) : Mat r H0 H' p qs rows where
  at_ := f.keep _ _ hp M.at_
  nd := M.nd
  ne := M.ne
  new := M.new
  newp := M.newp
  len := M.len
  row := fun i q row h1 h2 => by
    obtain ⟨xs, a, b⟩ := M.row i q row h1 h2
    exact ⟨xs, f.keep _ _ (hq q (List.mem_of_getElem? h1)) a, Al.mo f b⟩
theorem Mat.fe {α : Type} {r : Rp α} [Mo r] {H0 H H' : Hp} {p : Addr} {qs : List Addr} {rows : List (List α)} (M : Mat r H0 H p qs rows) (f : Fe H H') : Mat r H0 H' p qs rows := M.keep f (fun q => nomatch q) (fun _ _ q => nomatch q)
/-- an item put behind a row -/
theorem Mat.put {α : Type} {r : Rp α} [Mo r] {H0 H : Hp} {p : Addr} {qs : List Addr} {rows : List (List α)} (M : Mat r H0 H p qs rows) {i : Nat} {q : Addr} {row : List α} {xs : List V} {v : V} {x : α}
    (hq : qs[i]? = some q) (hr : rows[i]? = some row) (hx : H q = some (.lst xs)) (ha : Al r H xs row) (h : r H v x) : Mat r H0 (upd H q (.lst (xs ++ [v]))) p qs (rows.set i (row ++ [x])) := by
  have hm := List.mem_of_getElem? hq
  have f : Fx [q] H (upd H q (.lst (xs ++ [v]))) := Fx.put hx (List.mem_singleton.mpr rfl) (fun _ z => nomatch z)
  have np : p ≠ q := fun e => M.ne (e ▸ hm)
  refine ⟨by rw [upd_ne np]; exact M.at_, M.nd, M.ne, M.new, M.newp, by rw [List.length_set]; exact M.len, fun j q' row' h1 h2 => ?_⟩
  by_cases e : i = j
  · subst e
    rw [hq] at h1; cases h1
    rw [List.getElem?_set, if_pos rfl, if_pos (List.getElem?_eq_some_iff.mp hr).1] at h2
    cases h2
    exact ⟨_, upd_same, Al.snoc (Mo.mo (r := r) f h) (Al.mo f ha)⟩
  · rw [List.getElem?_set, if_neg e] at h2
    have ne : q' ≠ q := fun z => e (nd_ix M.nd hq (z ▸ h1))
    obtain ⟨ys, a, b⟩ := M.row j q' row' h1 h2
    exact ⟨ys, by rw [upd_ne ne]; exact a, Al.mo f b⟩
theorem Mat.rl {α : Type} {r : Rp α} {H0 H : Hp} {p : Addr} {qs : List Addr} {rows : List (List α)} (M : Mat r H0 H p qs rows) : rL (rL r) H (.ref p) rows := by
  refine ⟨p, _, rfl, M.at_, ?_⟩
  have := M.row
  have hl := M.len
  clear M
  induction qs generalizing rows with
  | nil =>
    cases rows with
    | nil => exact .nil
    | cons r rs => cases hl
  | cons q qs ih =>
    cases rows with
    | nil => cases hl
    | cons r rs =>
      obtain ⟨xs, a, b⟩ := this 0 q r rfl rfl
      exact .cons ⟨q, xs, rfl, a, b⟩ (ih (fun i q row h1 h2 => this (i + 1) q row h1 h2) (by simpa using hl))
/-- behind i turns of [[] for _ in ..]: D the new list -/
def MatC (H1 : Hp) (D : Addr) (i : Nat) (H' : Hp) : Prop := H1 D = none ∧ Fe H1 H' ∧ ∃ qs : List Addr, qs.length = i ∧ H' D = some (.lst (qs.map V.ref)) ∧ qs.Nodup ∧ D ∉ qs ∧ ∀ q ∈ qs, H1 q = none ∧ H' q = some (.lst [])
theorem MatC.start {H1 : Hp} {D : Addr} (h : H1 D = none) : MatC H1 D 0 (upd H1 D (.lst [])) :=
  ⟨h, Fe.new h, [], rfl, upd_same, List.nodup_nil, (by simp), (by simp)⟩
theorem MatC.turn {H1 H' : Hp} {D : Addr} {i : Nat} (m : MatC H1 D i H') (hi : i < 1000000) {p : Addr} (hp : H' p = none) :
    ∃ acc, (upd H' p (.lst [])) D = some (.lst acc) ∧ acc.length < sizeLine ∧ MatC H1 D (i + 1) (upd (upd H' p (.lst [])) D (.lst (acc ++ [.ref p]))) := by
  obtain ⟨h1, f, qs, hl, hD, nd, ne, hq⟩ := m
  have nDp : D ≠ p := ne_of_none hD hp
  have np : p ∉ qs := fun z => by
    have := (hq p z).2
    rw [hp] at this; cases this
  refine ⟨qs.map V.ref, by rw [upd_ne nDp]; exact hD, by rw [List.length_map, sizeLine_eq]; omega, h1, (f.trans (Fe.new hp)).mut h1, qs ++ [p], by rw [List.length_append, List.length_singleton, hl], by rw [upd_same, List.map_append]; rfl, ?_, ?_, ?_⟩
  · rw [List.nodup_append]
    refine ⟨nd, by simp, fun a ha b hb => ?_⟩
    rw [List.mem_singleton.mp hb]
    exact fun z => np (z ▸ ha)
  · rw [List.mem_append, List.mem_singleton]
    exact fun z => z.elim ne nDp
  · intro q z
    rcases List.mem_append.mp z with z | z
    · have a : q ≠ D := fun e => ne (e ▸ z)
      have b : q ≠ p := fun e => np (e ▸ z)
      exact ⟨(hq q z).1, by rw [upd_ne a, upd_ne b]; exact (hq q z).2⟩
    · rw [List.mem_singleton.mp z]
      exact ⟨f.free hp, by rw [upd_ne nDp.symm, upd_same]⟩
theorem MatC.mat {α : Type} {r : Rp α} {H0 H1 H' : Hp} {D : Addr} {n : Nat} (m : MatC H1 D n H') (e : Fe H0 H1) : ∃ qs, Mat r H0 H' D qs (List.replicate n ([] : List α)) := by
  obtain ⟨h1, f, qs, hl, hD, nd, ne, hq⟩ := m
  refine ⟨qs, hD, nd, ne, fun q z => e.free (hq q z).1, e.free h1, by rw [List.length_replicate, hl], fun i q row a b => ⟨[], (hq q (List.mem_of_getElem? a)).2, ?_⟩⟩
  rw [List.getElem?_replicate] at b
  split at b
  · cases b; exact .nil
  · cases b
/-- its turn, as the block asks it -/
theorem MatC.go {H1 H' : Hp} {D : Addr} {i : Nat} {σ2 : L2.St} (m : MatC H1 D i H') (hi : i < 1000000) :
    tYes σ2 H' fun b H3 => if b = true then tLst tNil σ2 H3 fun y H4 => ∃ acc, H4 D = some (.lst acc) ∧ acc.length < sizeLine ∧ MatC H1 D (i + 1) (upd H4 D (.lst (acc ++ [y]))) else MatC H1 D (i + 1) H3 := by
  refine iteT (B := MatC H1 D (i + 1) H') ?_
  exact ⟨Nat.zero_le _, fun p hp => m.turn hi hp⟩

/-! ### comprehensions, what has been made so far -/
/-- D, new since H1, holds the items l -/
structure Cmp {β : Type} (r : Rp β) (H1 : Hp) (D : Addr) (l : List β) (H' : Hp) : Prop where
  new : H1 D = none
  fe : Fe H1 H'
  ex : ∃ acc, H' D = some (.lst acc) ∧ Al r H' acc l
theorem Cmp.start {β : Type} {r : Rp β} {H1 : Hp} {D : Addr} (h : H1 D = none) : Cmp r H1 D [] (upd H1 D (.lst [])) := ⟨h, Fe.new h, [], upd_same, .nil⟩
theorem Cmp.add {β : Type} {r : Rp β} [Mo r] {H1 H' H4 : Hp} {D : Addr} {l : List β} {y : V} {x : β} (c : Cmp r H1 D l H') (hl : l.length < 1000000) (f : Fe H' H4) (h : r H4 y x) :
    ∃ acc, H4 D = some (.lst acc) ∧ acc.length < sizeLine ∧ Cmp r H1 D (l ++ [x]) (upd H4 D (.lst (acc ++ [y]))) := by
  obtain ⟨n, e, acc, hD, ha⟩ := c
  have fD : Fx [D] H4 (upd H4 D (.lst (acc ++ [y]))) := Fx.put (f.k hD) (List.mem_singleton.mpr rfl) (fun _ z => nomatch z)
  exact ⟨acc, f.k hD, by rw [ha.len, sizeLine_eq]; omega, n, (e.trans f).mut n, acc ++ [y], upd_same, Al.snoc (Mo.mo (r := r) fD h) (Al.mo fD (Al.mo f ha))⟩
theorem Cmp.skip {β : Type} {r : Rp β} [Mo r] {H1 H' H4 : Hp} {D : Addr} {l : List β} (c : Cmp r H1 D l H') (f : Fe H' H4) : Cmp r H1 D l H4 := by
  obtain ⟨n, e, acc, hD, ha⟩ := c
  exact ⟨n, e.trans f, acc, f.k hD, Al.mo f ha⟩
theorem Cmp.rl {β : Type} {r : Rp β} {H1 H' : Hp} {D : Addr} {l : List β} (c : Cmp r H1 D l H') : rL r H' (.ref D) l := by
  obtain ⟨n, e, acc, hD, ha⟩ := c
  exact ⟨D, acc, rfl, hD, ha⟩
section
variable {g : TG} {tt : TT} {te : TE} {vs : List Nat} {σ : L2.St} {H1 : Hp} {D : Addr} {Qd : Hp → Prop} {J : It}
/-- the turns of a comprehension whose walk has n items -/
theorem lc_by (n : Nat) (Pv : Nat → Hp → Prop) (h0 : Pv 0 (upd H1 D (.lst []))) (hgo : ∀ i H, i < n → Pv i H → J.go i H) (hstop : ∀ H, Pv n H → J.stop n H)
    (hs : ∀ i x H H', i < n → Pv i H → J.yld i H x H' → g x (wipe σ vs) H' fun σ2 H2 => wipe σ2 vs = wipe σ vs ∧ tt σ2 H2 fun b H3 =>
      if b = true then te σ2 H3 fun y H4 => ∃ acc, H4 D = some (.lst acc) ∧ acc.length < sizeLine ∧ Pv (i + 1) (upd H4 D (.lst (acc ++ [y]))) else Pv (i + 1) H3) (hd : ∀ H, Pv n H → Qd H) :
    ∃ W : Nat → Nat → Hp → Prop, (∃ m, W 0 m (upd H1 D (.lst []))) ∧ ∀ i m H, W i m H →
      (J.stop i H ∧ Qd H) ∨ (J.go i H ∧ ∃ Nx : Hp → Prop, (∀ H', Nx H' → ∃ m', m' < m ∧ W (i + 1) m' H') ∧ ∀ x H', J.yld i H x H' → g x (wipe σ vs) H' fun σ2 H2 => wipe σ2 vs = wipe σ vs ∧ tt σ2 H2 fun b H3 =>
        if b = true then te σ2 H3 fun y H4 => ∃ acc, H4 D = some (.lst acc) ∧ acc.length < sizeLine ∧ Nx (upd H4 D (.lst (acc ++ [y]))) else Nx H3) := by
  refine ⟨fun i m H => i + m = n ∧ Pv i H, ⟨n, by omega, h0⟩, ?_⟩
  rintro i m H ⟨e, h⟩
  by_cases hi : i < n
  · exact .inr ⟨hgo i H hi h, fun H2 => Pv (i + 1) H2, fun H2 q => ⟨m - 1, by omega, by omega, q⟩, fun x H' y => hs i x H H' hi h y⟩
  · have e2 : i = n := by omega
    subst e2
    exact .inl ⟨hstop _ h, hd _ h⟩
end
section
variable {tb : TS} {D : Ends} {σ : L2.St} {H : Hp} {g : TG} {J : It}
/-- .. of a for -/
theorem for_by (n : Nat) (Pv : Nat → L2.St → Hp → Prop) (h0 : Pv 0 σ H) (hgo : ∀ i σ' H', i < n → Pv i σ' H' → J.go i H') (hstop : ∀ σ' H', Pv n σ' H' → J.stop n H')
    (hs : ∀ i x σ' H' H2, i < n → Pv i σ' H' → J.yld i H' x H2 → g x σ' H2 fun σ2 H3 => tb { D with nx := Pv (i + 1), ct := Pv (i + 1), bk := D.nx } σ2 H3) (hd : ∀ σ' H', Pv n σ' H' → D.nx σ' H') :
    ∃ W : Nat → Nat → L2.St → Hp → Prop, (∃ m, W 0 m σ H) ∧ ∀ i m σ H, W i m σ H →
      (J.stop i H ∧ D.nx σ H) ∨ (J.go i H ∧ ∃ N : L2.St → Hp → Prop, (∀ σ' H', N σ' H' → ∃ m', m' < m ∧ W (i + 1) m' σ' H') ∧ ∀ x H', J.yld i H x H' → g x σ H' fun σ2 H2 => tb { D with nx := N, ct := N, bk := D.nx } σ2 H2) := by
  refine ⟨fun i m σ' H' => i + m = n ∧ Pv i σ' H', ⟨n, by omega, h0⟩, ?_⟩
  rintro i m σ' H' ⟨e, h⟩
  by_cases hi : i < n
  · exact .inr ⟨hgo i _ _ hi h, fun σ2 H2 => Pv (i + 1) σ2 H2, fun σ2 H2 q => ⟨m - 1, by omega, by omega, q⟩, fun x H2 y => hs i x σ' H' H2 hi h y⟩
  · have e2 : i = n := by omega
    subst e2
    exact .inl ⟨hstop _ _ h, hd _ _ h⟩
end
/-- zip of two lists that stand: a new pair each turn -/
theorem zip_go {K : PySem.W.Frag} {a b : Addr} {xs ys : List V} {H : Hp} (ha : H a = some (.lst xs)) (hb : H b = some (.lst ys)) {i : Nat} (hx : i < xs.length) (hy : i < ys.length) : (Itz K a b).go i H :=
  ⟨xs, ys, xs[i], ys[i], SqL.of ha, SqL.of hb, List.getElem?_eq_getElem hx, List.getElem?_eq_getElem hy⟩
theorem zip_stop {K : PySem.W.Frag} {a b : Addr} {xs ys : List V} {H : Hp} (ha : H a = some (.lst xs)) (hb : H b = some (.lst ys)) {i : Nat} (hx : xs.length ≤ i) : (Itz K a b).stop i H :=
  ⟨xs, ys, SqL.of ha, SqL.of hb, .inl hx⟩
theorem zip_yld {K : PySem.W.Frag} {a b : Addr} {xs ys : List V} {H H' : Hp} {v : V} (ha : H a = some (.lst xs)) (hb : H b = some (.lst ys)) {i : Nat} (h : (Itz K a b).yld i H v H') :
    ∃ T x y, v = .ref T ∧ H T = none ∧ H' = upd H T (.tup [x, y]) ∧ xs[i]? = some x ∧ ys[i]? = some y := by
  obtain ⟨T, x, y, h1, h2, h3, h4, h5⟩ := h
  exact ⟨T, x, y, h1, h2, h3, h4 _ (SqL.of ha), h5 _ (SqL.of hb)⟩
theorem enum_go {K : PySem.W.Frag} {a : Addr} {xs : List V} {H : Hp} (ha : H a = some (.lst xs)) {i : Nat} (hx : i < xs.length) : (Ite K a).go i H := ⟨xs, xs[i], SqL.of ha, List.getElem?_eq_getElem hx⟩
theorem enum_stop {K : PySem.W.Frag} {a : Addr} {xs : List V} {H : Hp} (ha : H a = some (.lst xs)) {i : Nat} (hx : xs.length ≤ i) : (Ite K a).stop i H := ⟨xs, SqL.of ha, hx⟩
theorem enum_yld {K : PySem.W.Frag} {a : Addr} {xs : List V} {H H' : Hp} {v : V} (ha : H a = some (.lst xs)) {i : Nat} (h : (Ite K a).yld i H v H') :
    ∃ T x, v = .ref T ∧ H T = none ∧ H' = upd H T (.tup [.int (i : Int), x]) ∧ xs[i]? = some x := by
  obtain ⟨T, x, h1, h2, h3, h4⟩ := h
  exact ⟨T, x, h1, h2, h3, h4 _ (SqL.of ha)⟩
end Fm
/-! the layer's rules with the written part by name, so that what they ask does not speak of the block they stand in -/
namespace Fm
open PySem PySem.Spec PyProof.Rows L2
section
variable {X : Cx} {K : PySem.W.Frag} {tg e e2 o value : Expr} {es : List Expr} {te ta tv : TE} {t : TA} {tgs : TGs} {pos p tpos apos cpos : Pos} {f : Str} {k kk n : Nat} {elts : List Expr}
theorem kg_tup (n : Nat) (h : X.K = K) (hc : X.calm = true) (hs : PGs X es tgs) (hn : (assignEach es X.env).length = n := by rfl) (hst : (assignEach es X.env).findIdx? (·.1) = none := by rfl) :
    PG X (.Tuple es k pos) (gTup K n tgs) := by
  subst h
  exact pg_tup hc hs hn hst
theorem ki_list (h : X.K = K) (he : PE X e te) : PI X tg e (iList K te) := by subst h; exact pi_list he
theorem ki_tup (h : X.K = K) (he : PE X e te) : PI X tg e (iTup K te) := by subst h; exact pi_tup he
theorem kx_list (h : X.K = K) : IxR X (rIxL K) := by subst h; exact ix_list
theorem kx_tup (h : X.K = K) : IxR X (rIxT K) := by subst h; exact ix_tup
def rLen (K : PySem.W.Frag) : List V → Hp → VK → Prop := fun xs H Q => ∃ p ys, xs = [.ref p] ∧ (SqL K H p ys ∨ SqT K H p ys) ∧ Q (.int ys.length) H
theorem kc_len (h : X.K = K) : CallR X (.builtin "len") (rLen K) := by subst h; exact call_len_seq
def rLenS : List V → Hp → VK → Prop := fun xs H Q => ∃ z, xs = [.str z] ∧ z.length ≤ sizeLine ∧ Q (.int z.length) H
theorem kc_lenS : CallR X (.builtin "len") rLenS := call_len_str
def rLst (K : PySem.W.Frag) : List V → Hp → VK → Prop := fun xs H Q => ∃ p ys, xs = [.ref p] ∧ (SqL K H p ys ∨ SqT K H p ys) ∧ ∀ l, H l = none → Q (.ref l) (upd H l (.lst ys))
theorem kc_list (h : X.K = K) : CallR X (.type "list") (rLst K) := by subst h; exact call_list_of
def rTpl (K : PySem.W.Frag) : List V → Hp → VK → Prop := fun xs H Q => ∃ p ys, xs = [.ref p] ∧ ((SqL K H p ys ∧ ∀ l, H l = none → Q (.ref l) (upd H l (.tup ys))) ∨ (SqT K H p ys ∧ Q (.ref p) H))
theorem kc_tuple (h : X.K = K) : CallR X (.type "tuple") (rTpl K) := by subst h; exact call_tuple_of
theorem ke_fld (h : X.K = K) (he : PE X e te) (hb : attributeBase e f X.env (eval e X.env) = eval e X.env) : PE X (.Attribute e f pos) (tFld K te f) := by
  subst h; exact pe_fld he hb
theorem ks_fld (h : X.K = K) (ha : PE X o ta) (hv : PE X value tv) (hs : swapsWith value (some (.Attribute o f tpos)) pos.line X.env = pure false) : PS X (.Assign [.Attribute o f tpos] value pos) (sFld K ta tv f) := by
  subst h; exact ps_fld ha hv hs
section
variable {T id : String} {name : Str} {r : V → List V → Hp → VK → Prop} {to : TE}
theorem ke_bm0 (h : X.K = K) (pa : PlainAttrs T) (slot : Slot T name id) (hty : typeOf (.builtin id) = pure (.type "method_descriptor")) (hm : MtR X id r) (ho : PE X o to)
    (hbase : attributeBase o name X.env (eval o X.env) = eval o X.env := by rfl) (hline : (apos.endLine == cpos.line) = true := by rfl) :
    PE X (.Call (.Attribute o name apos) [] [] cpos) (tBM0 K T r to) := by
  subst h; exact pe_bm0 pa slot hty hm ho hbase hline
theorem ke_bm (h : X.K = K) (pa : PlainAttrs T) (slot : Slot T name id) (hty : typeOf (.builtin id) = pure (.type "method_descriptor")) (hm : MtR X id r) (ho : PE X o to) (ha : PA X (e :: es) t)
    (hbase : attributeBase o name X.env (eval o X.env) = eval o X.env := by rfl)
    (hfew : ((backTo cpos (starEach (e :: es) X.env)).all (fun x => !x.1) && (backToKw cpos (keywordEach [] X.env)).all (fun x => x.1.isSome)
      && decide ((e :: es).length + ([] : List Keyword).length + (if ([] : List Keyword).isEmpty then 0 else 1) < 30)) = true := by rfl)
    (hline : (apos.endLine == cpos.line) = true := by rfl) (hs : starEach (e :: es) X.env = (false, eval e X.env) :: starEach es X.env := by rfl)
    (hplain : (backTo cpos (starEach es X.env)).any (·.1) = false := by rfl) :
    PE X (.Call (.Attribute o name apos) (e :: es) [] cpos) (tBM K T r to t) := by
  subst h; exact pe_bm pa slot hty hm ho ha hbase hfew hline hs hplain
end
theorem ko_in (h : X.K = K) : OpR X (compareOp .In) (rIn K false) := by subst h; exact op_in_seq
theorem ko_notIn (h : X.K = K) : OpR X (compareOp .NotIn) (rIn K true) := by subst h; exact op_notIn_seq
theorem kl_list (h : X.K = K) : SlR X (rSlL K) := by subst h; exact sl_list
theorem kl_tup (h : X.K = K) : SlR X (rSlT K) := by subst h; exact sl_tup
theorem ki_enum (h : X.K = K) (hg : Gl X "enumerate") (hm : X.mg "enumerate" = none) (ha : PA X [e] t) (hs : starEach [e] X.env = [(false, eval e X.env)] := by rfl) :
    PI X (.Tuple elts kk tpos) (.Call (.Name "enumerate" p) [e] [] pos) (iEnum K t) := by
  subst h; exact pi_enum hg hm ha hs
theorem ki_zip (h : X.K = K) (hg : Gl X "zip") (hm : X.mg "zip" = none) (ha : PA X [e, e2] t) (hs : starEach [e, e2] X.env = (false, eval e X.env) :: starEach [e2] X.env := by rfl)
    (hpl : (backTo pos (starEach [e2] X.env)).any (·.1) = false := by rfl) : PI X (.Tuple elts kk tpos) (.Call (.Name "zip" p) [e, e2] [] pos) (iZip K t) := by
  subst h; exact pi_zip hg hm ha hs hpl
theorem ki_zipA (h : X.K = K) (hg : Gl X "zip") (hm : X.mg "zip" = none) (ha : PA X [e, e2] t) (hs : starEach [e, e2] X.env = (false, eval e X.env) :: starEach [e2] X.env := by rfl)
    (hpl : (backTo pos (starEach [e2] X.env)).any (·.1) = false := by rfl) : PI X (.Tuple elts kk tpos) (.Call (.Name "zip" p) [e, e2] [] pos) (RZ.iZipA K t) := by
  subst h; exact RZ.pi_zipA hg hm ha hs hpl
theorem ki_rev (h : X.K = K) (hg : Gl X "reversed") (hm : X.mg "reversed" = none) (ha : PA X [e] t) (hs : starEach [e] X.env = [(false, eval e X.env)] := by rfl) :
    PI X tg (.Call (.Name "reversed" p) [e] [] pos) (iRev K t) := by
  subst h; exact pi_reversed hg hm ha hs
def tTruth (K : PySem.W.Frag) (te : TE) : TT := fun σ H Q => te σ H fun x H' => ∃ k, TruV K x H' k ∧ Q k H'
theorem kt_truth (h : X.K = K) (ha : PE X e te) (he : ∀ whole, isTrue e X.env whole = (do let v ← whole; standAt e.pos; holding [v] (truthy v)) := by intro _; rfl) : PT X e (tTruth K te) := by
  subst h; exact pt_truth ha he
theorem kc_min (h : X.K = K) (hc : X.calm = true) : CallR X (.builtin "min") (rMin K) := by subst h; exact cr_min hc
theorem kc_max (h : X.K = K) (hc : X.calm = true) : CallR X (.builtin "max") (rMax K) := by subst h; exact cr_max hc
theorem kc_sum (h : X.K = K) (hc : X.calm = true) : CallR X (.builtin "sum") (rSum K) := by subst h; exact cr_sum hc
theorem kc_sorted (h : X.K = K) : CallR X (.builtin "sorted") (rSorted K) := by subst h; exact cr_sorted
theorem kc_sortedS (h : X.K = K) : CallR X (.builtin "sorted") (rSortedS K) := by subst h; exact cr_sortedS
theorem ko_catT (h : X.K = K) : OpR X (binaryOp .Add) (rCatT K) := by subst h; exact op_catT
theorem ko_eqD (h : X.K = K) (hu : X.A.units + 64 < cLine) : OpR X (compareOp .Eq) (rEqD K) := by subst h; exact op_eqD hu
theorem ko_neD (h : X.K = K) (hu : X.A.units + 64 < cLine) : OpR X (compareOp .NotEq) (rNeD K) := by subst h; exact op_neD hu
theorem ke_rev {k : Nat} {p1 p2 p3 : Pos} (h : X.K = K) (he : PE X e te) : PE X (.Subscript e (.Slice none none (some (.UnaryOp .USub (.Constant (.int 1) k p1) p2)) p3) pos) (tRevL K te) := by
  subst h; exact pe_revL he
theorem kc_isi (h : X.K = K) : CallR X (.builtin "isinstance") (rIsi K) := by subst h; exact call_isi
def rSrtDS : List V → Hp → VK → Prop := fun xs H Q => ∃ (a : Addr) (kvs : List (Key × V)) (ks : List Str), xs = [.ref a] ∧ Rd H a (.dK kvs) ∧ kvs.map (·.1) = ks.map Sum.inr ∧ ks.length < 64 ∧
    ∀ ys p, ys.Perm ks → sortedS ys = true → H p = none → Q (.ref p) (upd H p (.lst (ys.map V.str)))
theorem kc_sortedDS (hc : X.calm = true) : CallR X (.builtin "sorted") rSrtDS := call_sortedD hc
def rKeys : List V → Hp → VK → Prop := fun xs H Q => ∃ (a : Addr) (kvs : List (Key × V)), xs = [.ref a] ∧ Rd H a (.dK kvs) ∧ ∀ p, H p = none → Q (.ref p) (upd H p (.lst (kvs.map fun kv => kV kv.1)))
theorem kc_listD (hc : X.calm = true) : CallR X (.type "list") rKeys := call_listD hc
end
end Fm
/-! the text by places, and what the top leaves of it -/
namespace Fm
open PySem L2
def top (i : Nat) : Stmt := PySem.Challenge.pw_fewmends_k79_whole_phones.main.body.getD i (.Pass ⟨0, 0, 0, 0⟩)
abbrev s_steps_by_state : Stmt := top 1
abbrev N_steps_by_state : List Str := ["machine", "rows", "begin", "letter", "to", "_"]
abbrev P_steps_by_state : List Str := ["machine"]
theorem sc_steps_by_state : FnScope N_steps_by_state P_steps_by_state (defScope s_steps_by_state) := ⟨rfl, rfl, rfl, by decide +kernel, rfl, by decide +kernel, by decide +kernel⟩
abbrev s_states_behind : Stmt := top 2
abbrev N_states_behind : List Str := ["rows", "states", "letter", "found", "state", "sign", "to"]
abbrev P_states_behind : List Str := ["rows", "states", "letter"]
theorem sc_states_behind : FnScope N_states_behind P_states_behind (defScope s_states_behind) := ⟨rfl, rfl, rfl, by decide +kernel, rfl, by decide +kernel, by decide +kernel⟩
abbrev s_states_along : Stmt := top 3
abbrev N_states_along : List Str := ["rows", "states", "text", "letter"]
abbrev P_states_along : List Str := ["rows", "states", "text"]
theorem sc_states_along : FnScope N_states_along P_states_along (defScope s_states_along) := ⟨rfl, rfl, rfl, by decide +kernel, rfl, by decide +kernel, by decide +kernel⟩
abbrev s_rests_of : Stmt := top 5
abbrev N_rests_of : List Str := ["book", "found", "read", "_", "at"]
abbrev P_rests_of : List Str := ["book"]
theorem sc_rests_of : FnScope N_rests_of P_rests_of (defScope s_rests_of) := ⟨rfl, rfl, rfl, by decide +kernel, rfl, by decide +kernel, by decide +kernel⟩
abbrev s_MoveWeb_init : Stmt := inClass (top 6) 0
abbrev N_MoveWeb_init : List Str := ["self", "book", "machine", "rests", "state", "rest", "home", "standing", "_", "letter"]
abbrev P_MoveWeb_init : List Str := ["self", "book", "machine"]
theorem sc_MoveWeb_init : FnScope N_MoveWeb_init P_MoveWeb_init (defScope s_MoveWeb_init) := ⟨rfl, rfl, rfl, by decide +kernel, rfl, by decide +kernel, by decide +kernel⟩
abbrev s_MoveWeb_put_moves : Stmt := inClass (top 6) 1
abbrev N_MoveWeb_put_moves : List Str := ["self", "rows", "home", "state", "rest", "letter", "to"]
abbrev P_MoveWeb_put_moves : List Str := ["self", "rows"]
theorem sc_MoveWeb_put_moves : FnScope N_MoveWeb_put_moves P_MoveWeb_put_moves (defScope s_MoveWeb_put_moves) := ⟨rfl, rfl, rfl, by decide +kernel, rfl, by decide +kernel, by decide +kernel⟩
abbrev s_MoveWeb_put_edits : Stmt := inClass (top 6) 2
abbrev N_MoveWeb_put_edits : List Str := ["self", "rows", "home", "state", "read", "write", "cost", "to"]
abbrev P_MoveWeb_put_edits : List Str := ["self", "rows", "home", "state"]
theorem sc_MoveWeb_put_edits : FnScope N_MoveWeb_put_edits P_MoveWeb_put_edits (defScope s_MoveWeb_put_edits) := ⟨rfl, rfl, rfl, by decide +kernel, rfl, by decide +kernel, by decide +kernel⟩
abbrev s_MoveWeb_is_end : Stmt := inClass (top 6) 3
abbrev N_MoveWeb_is_end : List Str := ["self", "home", "state", "rest"]
abbrev P_MoveWeb_is_end : List Str := ["self", "home"]
theorem sc_MoveWeb_is_end : FnScope N_MoveWeb_is_end P_MoveWeb_is_end (defScope s_MoveWeb_is_end) := ⟨rfl, rfl, rfl, by decide +kernel, rfl, by decide +kernel, by decide +kernel⟩
abbrev s_MoveWeb_ends : Stmt := inClass (top 6) 4
abbrev N_MoveWeb_ends : List Str := ["self", "home"]
abbrev P_MoveWeb_ends : List Str := ["self"]
theorem sc_MoveWeb_ends : FnScope N_MoveWeb_ends P_MoveWeb_ends (defScope s_MoveWeb_ends) := ⟨rfl, rfl, rfl, by decide +kernel, rfl, by decide +kernel, by decide +kernel⟩
abbrev s_MoveWeb_closed : Stmt := inClass (top 6) 5
abbrev N_MoveWeb_closed : List Str := ["self", "row", "told", "fresh", "further", "home", "to", "cost", "_"]
abbrev P_MoveWeb_closed : List Str := ["self", "row"]
theorem sc_MoveWeb_closed : FnScope N_MoveWeb_closed P_MoveWeb_closed (defScope s_MoveWeb_closed) := ⟨rfl, rfl, rfl, by decide +kernel, rfl, by decide +kernel, by decide +kernel⟩
abbrev s_MoveWeb_begun : Stmt := inClass (top 6) 6
abbrev N_MoveWeb_begun : List Str := ["self", "row"]
abbrev P_MoveWeb_begun : List Str := ["self"]
theorem sc_MoveWeb_begun : FnScope N_MoveWeb_begun P_MoveWeb_begun (defScope s_MoveWeb_begun) := ⟨rfl, rfl, rfl, by decide +kernel, rfl, by decide +kernel, by decide +kernel⟩
abbrev s_MoveWeb_behind : Stmt := inClass (top 6) 7
abbrev N_MoveWeb_behind : List Str := ["self", "row", "letter", "told", "home", "cost", "to", "more", "_"]
abbrev P_MoveWeb_behind : List Str := ["self", "row", "letter"]
theorem sc_MoveWeb_behind : FnScope N_MoveWeb_behind P_MoveWeb_behind (defScope s_MoveWeb_behind) := ⟨rfl, rfl, rfl, by decide +kernel, rfl, by decide +kernel, by decide +kernel⟩
abbrev s_MoveWeb_along : Stmt := inClass (top 6) 8
abbrev N_MoveWeb_along : List Str := ["self", "text", "row", "letter"]
abbrev P_MoveWeb_along : List Str := ["self", "text"]
theorem sc_MoveWeb_along : FnScope N_MoveWeb_along P_MoveWeb_along (defScope s_MoveWeb_along) := ⟨rfl, rfl, rfl, by decide +kernel, rfl, by decide +kernel, by decide +kernel⟩
abbrev s_MoveWeb_least_end : Stmt := inClass (top 6) 9
abbrev N_MoveWeb_least_end : List Str := ["self", "row", "home"]
abbrev P_MoveWeb_least_end : List Str := ["self", "row"]
theorem sc_MoveWeb_least_end : FnScope N_MoveWeb_least_end P_MoveWeb_least_end (defScope s_MoveWeb_least_end) := ⟨rfl, rfl, rfl, by decide +kernel, rfl, by decide +kernel, by decide +kernel⟩
abbrev s_least_of : Stmt := top 7
abbrev N_least_of : List Str := ["numbers", "told", "number"]
abbrev P_least_of : List Str := ["numbers"]
theorem sc_least_of : FnScope N_least_of P_least_of (defScope s_least_of) := ⟨rfl, rfl, rfl, by decide +kernel, rfl, by decide +kernel, by decide +kernel⟩
abbrev s_standings_of : Stmt := top 9
abbrev N_standings_of : List Str := ["book", "machine", "state", "rest"]
abbrev P_standings_of : List Str := ["book", "machine"]
theorem sc_standings_of : FnScope N_standings_of P_standings_of (defScope s_standings_of) := ⟨rfl, rfl, rfl, by decide +kernel, rfl, by decide +kernel, by decide +kernel⟩
abbrev s_cost_row : Stmt := top 10
abbrev N_cost_row : List Str := ["book", "machine", "text"]
abbrev P_cost_row : List Str := ["book", "machine", "text"]
theorem sc_cost_row : FnScope N_cost_row P_cost_row (defScope s_cost_row) := ⟨rfl, rfl, rfl, by decide +kernel, rfl, by decide +kernel, by decide +kernel⟩
abbrev s_pair_moves : Stmt := top 12
abbrev N_pair_moves : List Str := ["book", "text", "other", "wide", "operations", "moves", "i", "j", "row", "read", "write", "cost", "edit", "sign"]
abbrev P_pair_moves : List Str := ["book", "text", "other"]
theorem sc_pair_moves : FnScope N_pair_moves P_pair_moves (defScope s_pair_moves) := ⟨rfl, rfl, rfl, by decide +kernel, rfl, by decide +kernel, by decide +kernel⟩
abbrev s_costs_ahead : Stmt := top 13
abbrev N_costs_ahead : List Str := ["many", "moves", "least", "node", "_", "cost", "to"]
abbrev P_costs_ahead : List Str := ["many", "moves"]
theorem sc_costs_ahead : FnScope N_costs_ahead P_costs_ahead (defScope s_costs_ahead) := ⟨rfl, rfl, rfl, by decide +kernel, rfl, by decide +kernel, by decide +kernel⟩
abbrev s_distance_of : Stmt := top 14
abbrev N_distance_of : List Str := ["book", "text", "other", "many", "moves"]
abbrev P_distance_of : List Str := ["book", "text", "other"]
theorem sc_distance_of : FnScope N_distance_of P_distance_of (defScope s_distance_of) := ⟨rfl, rfl, rfl, by decide +kernel, rfl, by decide +kernel, by decide +kernel⟩
abbrev s_mend_distance : Stmt := top 16
abbrev N_mend_distance : List Str := ["book", "machine", "text", "web"]
abbrev P_mend_distance : List Str := ["book", "machine", "text"]
theorem sc_mend_distance : FnScope N_mend_distance P_mend_distance (defScope s_mend_distance) := ⟨rfl, rfl, rfl, by decide +kernel, rfl, by decide +kernel, by decide +kernel⟩
abbrev s_law_pool : Stmt := top 18
abbrev N_law_pool : List Str := ["script", "most", "state", "great", "cell"]
abbrev P_law_pool : List Str := ["script"]
theorem sc_law_pool : FnScope N_law_pool P_law_pool (defScope s_law_pool) := ⟨rfl, rfl, rfl, by decide +kernel, rfl, by decide +kernel, by decide +kernel⟩
abbrev s_law_draw : Stmt := top 19
abbrev N_law_draw : List Str := ["pool", "many", "great", "cell", "state"]
abbrev P_law_draw : List Str := ["pool", "many"]
theorem sc_law_draw : FnScope N_law_draw P_law_draw (defScope s_law_draw) := ⟨rfl, rfl, rfl, by decide +kernel, rfl, by decide +kernel, by decide +kernel⟩
abbrev s_law_ops : Stmt := top 20
abbrev N_law_ops : List Str := ["book", "machine", "states", "ends", "steps", "rows", "read", "write", "cost", "table", "q", "heads", "x", "step"]
abbrev P_law_ops : List Str := ["book", "machine"]
theorem sc_law_ops : FnScope N_law_ops P_law_ops (defScope s_law_ops) := ⟨rfl, rfl, rfl, by decide +kernel, rfl, by decide +kernel, by decide +kernel⟩
abbrev s_law_ahead : Stmt := top 21
abbrev N_law_ahead : List Str := ["ops", "many", "text", "begin", "rows", "place", "row", "again", "read", "write", "cost", "table", "q", "p", "there"]
abbrev P_law_ahead : List Str := ["ops", "many", "text", "begin"]
theorem sc_law_ahead : FnScope N_law_ahead P_law_ahead (defScope s_law_ahead) := ⟨rfl, rfl, rfl, by decide +kernel, rfl, by decide +kernel, by decide +kernel⟩
abbrev s_law_same : Stmt := top 22
abbrev N_law_same : List Str := ["told", "due", "one", "other"]
abbrev P_law_same : List Str := ["told", "due"]
theorem sc_law_same : FnScope N_law_same P_law_same (defScope s_law_same) := ⟨rfl, rfl, rfl, by decide +kernel, rfl, by decide +kernel, by decide +kernel⟩
abbrev s_law_letters : Stmt := top 23
abbrev N_law_letters : List Str := ["pool", "many", "left", "found", "k"]
abbrev P_law_letters : List Str := ["pool", "many"]
theorem sc_law_letters : FnScope N_law_letters P_law_letters (defScope s_law_letters) := ⟨rfl, rfl, rfl, by decide +kernel, rfl, by decide +kernel, by decide +kernel⟩
abbrev s_law_word : Stmt := top 24
abbrev N_law_word : List Str := ["pool", "letters", "least", "most", "word", "k"]
abbrev P_law_word : List Str := ["pool", "letters", "least", "most"]
theorem sc_law_word : FnScope N_law_word P_law_word (defScope s_law_word) := ⟨rfl, rfl, rfl, by decide +kernel, rfl, by decide +kernel, by decide +kernel⟩
abbrev s_law_tree : Stmt := top 25
abbrev N_law_tree : List Str := ["words", "again", "steps", "ends", "states", "word", "at", "x", "last", "rows", "key"]
abbrev P_law_tree : List Str := ["words", "again"]
theorem sc_law_tree : FnScope N_law_tree P_law_tree (defScope s_law_tree) := ⟨rfl, rfl, rfl, by decide +kernel, rfl, by decide +kernel, by decide +kernel⟩
abbrev s_law_book : Stmt := top 26
abbrev N_law_book : List Str := ["pool", "letters", "words", "many", "found", "k", "word", "at", "write", "read", "key"]
abbrev P_law_book : List Str := ["pool", "letters", "words", "many"]
theorem sc_law_book : FnScope N_law_book P_law_book (defScope s_law_book) := ⟨rfl, rfl, rfl, by decide +kernel, rfl, by decide +kernel, by decide +kernel⟩
abbrev s_law_spoilt : Stmt := top 27
abbrev N_law_spoilt : List Str := ["pool", "book", "word", "text", "cost", "place", "fits", "read", "write", "price", "edit"]
abbrev P_law_spoilt : List Str := ["pool", "book", "word"]
theorem sc_law_spoilt : FnScope N_law_spoilt P_law_spoilt (defScope s_law_spoilt) := ⟨rfl, rfl, rfl, by decide +kernel, rfl, by decide +kernel, by decide +kernel⟩
abbrev s_law_due_row : Stmt := top 28
abbrev N_law_due_row : List Str := ["book", "machine", "text", "standings", "ops", "rows", "costs", "q", "place", "rest", "read", "write", "cost", "table", "p", "key", "standing"]
abbrev P_law_due_row : List Str := ["book", "machine", "text", "standings"]
theorem sc_law_due_row : FnScope N_law_due_row P_law_due_row (defScope s_law_due_row) := ⟨rfl, rfl, rfl, by decide +kernel, rfl, by decide +kernel, by decide +kernel⟩
abbrev s_law_rests : Stmt := top 29
abbrev N_law_rests : List Str := ["book", "rests", "read", "write", "cost"]
abbrev P_law_rests : List Str := ["book"]
theorem sc_law_rests : FnScope N_law_rests P_law_rests (defScope s_law_rests) := ⟨rfl, rfl, rfl, by decide +kernel, rfl, by decide +kernel, by decide +kernel⟩
abbrev s_law_asked : Stmt := top 30
abbrev N_law_asked : List Str := ["book", "machine", "text", "rests", "standings", "q", "due", "found", "least", "rest", "cell", "standing"]
abbrev P_law_asked : List Str := ["book", "machine", "text"]
theorem sc_law_asked : FnScope N_law_asked P_law_asked (defScope s_law_asked) := ⟨rfl, rfl, rfl, by decide +kernel, rfl, by decide +kernel, by decide +kernel⟩
abbrev s_law_table : Stmt := top 31
abbrev N_law_table : List Str := ["book", "text", "other", "rows", "total", "place", "at", "read", "write", "cost", "there", "x"]
abbrev P_law_table : List Str := ["book", "text", "other"]
theorem sc_law_table : FnScope N_law_table P_law_table (defScope s_law_table) := ⟨rfl, rfl, rfl, by decide +kernel, rfl, by decide +kernel, by decide +kernel⟩
abbrev s_law_words_hold : Stmt := top 32
abbrev N_law_words_hold : List Str := ["pool", "letters", "words", "again", "machine", "book", "word", "text", "cost", "told", "other", "k"]
abbrev P_law_words_hold : List Str := ["pool"]
theorem sc_law_words_hold : FnScope N_law_words_hold P_law_words_hold (defScope s_law_words_hold) := ⟨rfl, rfl, rfl, by decide +kernel, rfl, by decide +kernel, by decide +kernel⟩
abbrev s_law : Stmt := top 33
abbrev N_law : List Str := ["script", "pool", "f", "h", "p", "book", "machine", "lap", "letters", "word", "text"]
abbrev P_law : List Str := ["script"]
theorem sc_law : FnScope N_law P_law (defScope s_law) := ⟨rfl, rfl, rfl, by decide +kernel, rfl, by decide +kernel, by decide +kernel⟩
structure Txt (K : PySem.W.Frag) (g : Str → Option Value) where
  z_len : g "len" = none
  z_range : g "range" = none
  z_enumerate : g "enumerate" = none
  z_zip : g "zip" = none
  z_reversed : g "reversed" = none
  z_list : g "list" = none
  z_tuple : g "tuple" = none
  z_sorted : g "sorted" = none
  z_min : g "min" = none
  z_max : g "max" = none
  z_set : g "set" = none
  z_int : g "int" = none
  z_str : g "str" = none
  z_isinstance : g "isinstance" = none
  z_bool : g "bool" = none
  c_MoveWeb : Addr
  cl_MoveWeb : Cls K c_MoveWeb
  mg_MoveWeb : g "MoveWeb" = some (.ref c_MoveWeb)
  na_MoveWeb_book : NoAttr K c_MoveWeb "book"
  na_MoveWeb_machine : NoAttr K c_MoveWeb "machine"
  na_MoveWeb_standings : NoAttr K c_MoveWeb "standings"
  na_MoveWeb_homes : NoAttr K c_MoveWeb "homes"
  na_MoveWeb_silent : NoAttr K c_MoveWeb "silent"
  na_MoveWeb_reading : NoAttr K c_MoveWeb "reading"
  d_steps_by_state : Def K g "steps_by_state" "steps_by_state" s_steps_by_state P_steps_by_state
  d_states_behind : Def K g "states_behind" "states_behind" s_states_behind P_states_behind
  d_states_along : Def K g "states_along" "states_along" s_states_along P_states_along
  d_rests_of : Def K g "rests_of" "rests_of" s_rests_of P_rests_of
  d_MoveWeb_init : DefM K c_MoveWeb "__init__" "MoveWeb.__init__" s_MoveWeb_init P_MoveWeb_init
  mk_MoveWeb : Mk K c_MoveWeb d_MoveWeb_init.f
  d_MoveWeb_put_moves : DefM K c_MoveWeb "put_moves" "MoveWeb.put_moves" s_MoveWeb_put_moves P_MoveWeb_put_moves
  d_MoveWeb_put_edits : DefM K c_MoveWeb "put_edits" "MoveWeb.put_edits" s_MoveWeb_put_edits P_MoveWeb_put_edits
  d_MoveWeb_is_end : DefM K c_MoveWeb "is_end" "MoveWeb.is_end" s_MoveWeb_is_end P_MoveWeb_is_end
  d_MoveWeb_ends : DefM K c_MoveWeb "ends" "MoveWeb.ends" s_MoveWeb_ends P_MoveWeb_ends
  d_MoveWeb_closed : DefM K c_MoveWeb "closed" "MoveWeb.closed" s_MoveWeb_closed P_MoveWeb_closed
  d_MoveWeb_begun : DefM K c_MoveWeb "begun" "MoveWeb.begun" s_MoveWeb_begun P_MoveWeb_begun
  d_MoveWeb_behind : DefM K c_MoveWeb "behind" "MoveWeb.behind" s_MoveWeb_behind P_MoveWeb_behind
  d_MoveWeb_along : DefM K c_MoveWeb "along" "MoveWeb.along" s_MoveWeb_along P_MoveWeb_along
  d_MoveWeb_least_end : DefM K c_MoveWeb "least_end" "MoveWeb.least_end" s_MoveWeb_least_end P_MoveWeb_least_end
  d_least_of : Def K g "least_of" "least_of" s_least_of P_least_of
  d_standings_of : Def K g "standings_of" "standings_of" s_standings_of P_standings_of
  d_cost_row : Def K g "cost_row" "cost_row" s_cost_row P_cost_row
  d_pair_moves : Def K g "pair_moves" "pair_moves" s_pair_moves P_pair_moves
  d_costs_ahead : Def K g "costs_ahead" "costs_ahead" s_costs_ahead P_costs_ahead
  d_distance_of : Def K g "distance_of" "distance_of" s_distance_of P_distance_of
  d_mend_distance : Def K g "mend_distance" "mend_distance" s_mend_distance P_mend_distance
  d_law_pool : Def K g "_law_pool" "_law_pool" s_law_pool P_law_pool
  d_law_draw : Def K g "_law_draw" "_law_draw" s_law_draw P_law_draw
  d_law_ops : Def K g "_law_ops" "_law_ops" s_law_ops P_law_ops
  d_law_ahead : Def K g "_law_ahead" "_law_ahead" s_law_ahead P_law_ahead
  d_law_same : Def K g "_law_same" "_law_same" s_law_same P_law_same
  d_law_letters : Def K g "_law_letters" "_law_letters" s_law_letters P_law_letters
  d_law_word : Def K g "_law_word" "_law_word" s_law_word P_law_word
  d_law_tree : Def K g "_law_tree" "_law_tree" s_law_tree P_law_tree
  d_law_book : Def K g "_law_book" "_law_book" s_law_book P_law_book
  d_law_spoilt : Def K g "_law_spoilt" "_law_spoilt" s_law_spoilt P_law_spoilt
  d_law_due_row : Def K g "_law_due_row" "_law_due_row" s_law_due_row P_law_due_row
  d_law_rests : Def K g "_law_rests" "_law_rests" s_law_rests P_law_rests
  d_law_asked : Def K g "_law_asked" "_law_asked" s_law_asked P_law_asked
  d_law_table : Def K g "_law_table" "_law_table" s_law_table P_law_table
  d_law_words_hold : Def K g "_law_words_hold" "_law_words_hold" s_law_words_hold P_law_words_hold
  d_law : Def K g "law" "law" s_law P_law

end Fm
/-! dicts that are used as sets: every value True -/
namespace Fm
open PySem L2
section
variable {α : Type} [DecidableEq α]
def ins (a : α) (ks : List α) : List α := if a ∈ ks then ks else ks ++ [a]
theorem mem_ins {a b : α} {ks : List α} : b ∈ ins a ks ↔ b = a ∨ b ∈ ks := by
  unfold ins
  split
  · rename_i h
    exact ⟨.inr, fun z => z.elim (fun e => e ▸ h) id⟩
  · rw [List.mem_append, List.mem_singleton]
    exact ⟨fun z => z.elim .inr .inl, fun z => z.elim .inr .inl⟩
theorem nd_ins {a : α} {ks : List α} (h : ks.Nodup) : (ins a ks).Nodup := by
  unfold ins
  split
  · exact h
  · rename_i hn
    rw [List.nodup_append]
    exact ⟨h, by simp, fun x hx y hy => by rw [List.mem_singleton.mp hy]; exact fun e => hn (e ▸ hx)⟩
theorem len_ins (a : α) (ks : List α) : (ins a ks).length ≤ ks.length + 1 := by
  unfold ins
  split
  · omega
  · rw [List.length_append, List.length_singleton]; omega
variable (f : α → Key)
def tks (ks : List α) : List (Key × V) := ks.map fun a => (f a, V.bl true)
theorem tks_keys (ks : List α) : (tks f ks).map (·.1) = ks.map f := by
  unfold tks
  rw [List.map_map]; rfl
theorem tks_len (ks : List α) : (tks f ks).length = ks.length := List.length_map _
theorem tks_put (hf : ∀ a b, f a = f b → a = b) (a : α) (ks : List α) : putK (tks f ks) (f a) (.bl true) = tks f (ins a ks) := by
  have hany : ((tks f ks).any fun kv => decide (kv.1 = f a)) = true ↔ a ∈ ks := by
    rw [List.any_eq_true]
    constructor
    · rintro ⟨kv, h1, h2⟩
      obtain ⟨b, hb, rfl⟩ := List.mem_map.mp h1
      have := hf _ _ (of_decide_eq_true h2)
      exact this ▸ hb
    · intro h
      exact ⟨(f a, .bl true), List.mem_map.mpr ⟨a, h, rfl⟩, by simp⟩
  unfold putK ins
  by_cases h : a ∈ ks
  · rw [if_pos (hany.mpr h), if_pos h]
    unfold tks
    rw [List.map_map]
    refine List.map_congr_left fun b _ => ?_
    show (if f b = f a then (f b, V.bl true) else (f b, V.bl true)) = _
    split <;> rfl
  · rw [if_neg (fun z => h (hany.mp z)), if_neg h]
    unfold tks
    rw [List.map_append]; rfl
end
def kN (n : Nat) : Key := .inl (n : Int)
def kS (l : List Nat) : Key := .inr ⟨l.toArray⟩
theorem kN_inj (a b : Nat) (h : kN a = kN b) : a = b := by
  have := Sum.inl.inj h
  omega
theorem str_inj {a b : List Nat} (h : (⟨a.toArray⟩ : Str) = ⟨b.toArray⟩) : a = b := by
  have := congrArg Str.cps h
  simpa using this
theorem kS_inj (a b : List Nat) (h : kS a = kS b) : a = b := str_inj (Sum.inr.inj h)
/-- different numbers below N are at most N -/
theorem nodup_below : ∀ (N : Nat) (l : List Nat), l.Nodup → (∀ x ∈ l, x < N) → l.length ≤ N
  | 0, l, _, h => by
    cases l with
    | nil => exact Nat.le_refl _
    | cons x l => exact absurd (h x List.mem_cons_self) (by omega)
  | N + 1, l, hn, h => by
    have h1 : (l.erase N).Nodup := hn.erase N
    have h2 : ∀ x ∈ l.erase N, x < N := fun x hx => by
      have a := h x (List.mem_of_mem_erase hx)
      have b : x ≠ N := fun e => by rw [e] at hx; exact (List.Nodup.not_mem_erase hn) hx
      omega
    have h3 := nodup_below N _ h1 h2
    by_cases hm : N ∈ l
    · have := List.length_erase_of_mem hm
      have : 0 < l.length := List.length_pos_of_mem hm
      omega
    · rw [List.erase_of_not_mem hm] at h3
      omega
def rSrtDI : List V → Hp → VK → Prop := fun xs H Q => ∃ (a : Addr) (kvs : List (Key × V)) (ks : List Int), xs = [.ref a] ∧ Rd H a (.dK kvs) ∧ kvs.map (·.1) = ks.map Sum.inl ∧ ks.length < 64 ∧
    ∀ (ys : List Int) (p : Addr), ys.Perm ks → ys.Pairwise (· ≤ ·) → H p = none → Q (.ref p) (upd H p (.lst (ys.map V.int)))
theorem kc_sortedDI {X : Cx} (hc : X.calm = true) : CallR X (.builtin "sorted") rSrtDI := call_sortedDI hc
/-- whole numbers from naturals, back -/
theorem ints_back {l : List Int} (h : ∀ x ∈ l, 0 ≤ x) : l = (l.map Int.toNat).map fun n : Nat => (n : Int) := by
  rw [List.map_map]
  induction l with
  | nil => rfl
  | cons x l ih =>
    rw [List.map_cons, ← ih fun y hy => h y (List.mem_cons_of_mem _ hy)]
    have := h x List.mem_cons_self
    show x :: l = ((x.toNat : Nat) : Int) :: l
    rw [Int.toNat_of_nonneg this]
theorem perm_nats {ys : List Int} {ks : List Nat} (h : ys.Perm (ks.map fun n : Nat => (n : Int))) : ∃ l : List Nat, ys = l.map (fun n : Nat => (n : Int)) ∧ l.Perm ks := by
  refine ⟨ys.map Int.toNat, ints_back fun x hx => ?_, ?_⟩
  · obtain ⟨n, _, rfl⟩ := List.mem_map.mp (h.mem_iff.mp hx)
    omega
  · have := h.map Int.toNat
    rw [List.map_map] at this
    have e : ks.map (Int.toNat ∘ fun n : Nat => (n : Int)) = ks := by
      conv => rhs; rw [← List.map_id ks]
      exact List.map_congr_left fun n _ => Int.toNat_natCast n
    rw [e] at this
    exact this
/-- the text's own slices -/
theorem cut_from (l : List Nat) (k : Nat) : cutS ⟨l.toArray⟩ (some (k : Int)) none = ⟨(l.drop k).toArray⟩ := by
  unfold cutS
  have hl : (⟨l.toArray⟩ : Str).length = l.length := by show l.toArray.size = _; rw [List.size_toArray]
  rw [hl, HT.sIx_nat]
  show (⟨((l.drop (min k l.length)).take (l.length - min k l.length)).toArray⟩ : Str) = _
  congr 2
  by_cases h : k ≤ l.length
  · rw [Nat.min_eq_left h, List.take_of_length_le (by rw [List.length_drop]; exact Nat.le_refl _)]
  · rw [Nat.min_eq_right (by omega), List.drop_of_length_le (Nat.le_refl _), List.drop_of_length_le (by omega), List.take_nil]
theorem slen (l : List Nat) : (⟨l.toArray⟩ : Str).length = l.length := by show l.toArray.size = _; rw [List.size_toArray]
end Fm
/-! rows of least costs -/
namespace Fm
open PySem L2
theorem ixn {n j : Nat} (hj : j < n) : ixN n (j : Int) = some j := by
  unfold ixN
  rw [if_pos (by omega), if_pos (by omega)]
  simp
abbrev CRow := List (Option Nat)
def oV : Option Nat → V
  | none => .non
  | some c => .int (c : Int)
theorem opt_oV {H : Hp} {v : V} {o : Option Nat} (h : rO rN H v o) : v = oV o := by
  cases o with
  | none => exact h
  | some c => exact h
theorem Al.opts {H : Hp} : ∀ {xs : List V} {l : CRow}, Al (rO rN) H xs l → xs = l.map oV
  | _, _, .nil => rfl
  | _, _, .cons h t => by rw [List.map_cons, ← Al.opts t, opt_oV h]
theorem Al.ofOpts {H : Hp} : ∀ l : CRow, Al (rO rN) H (l.map oV) l
  | [] => .nil
  | none :: l => .cons rfl (Al.ofOpts l)
  | some c :: l => .cons rfl (Al.ofOpts l)
/-- the least number of a set, none of the empty one -/
def Least (A : Nat → Prop) : Option Nat → Prop
  | none => ∀ c, ¬ A c
  | some c => A c ∧ ∀ d, A d → c ≤ d
theorem Least.uniq {A : Nat → Prop} : ∀ {o p : Option Nat}, Least A o → Least A p → o = p
  | none, none, _, _ => rfl
  | none, some c, h, k => absurd k.1 (h c)
  | some c, none, h, k => absurd h.1 (k c)
  | some c, some d, h, k => by
    have h1 := h.2 d k.1
    have h2 := k.2 c h.1
    rw [Nat.le_antisymm h1 h2]
theorem Least.congr {A B : Nat → Prop} (h : ∀ c, A c ↔ B c) {o : Option Nat} (l : Least A o) : Least B o := by
  have : A = B := funext fun c => propext (h c)
  rw [← this]; exact l
/-- each place of the row holds the least number of its set -/
structure LRow (n : Nat) (A : Nat → Nat → Prop) (row : CRow) : Prop where
  len : row.length = n
  snd : ∀ (h c : Nat), row[h]? = some (some c) → A h c
  low : ∀ h c, A h c → ∃ c', row[h]? = some (some c') ∧ c' ≤ c
theorem LRow.least {n : Nat} {A : Nat → Nat → Prop} {row : CRow} (R : LRow n A row) {h : Nat} {o : Option Nat} (e : row[h]? = some o) : Least (A h) o := by
  cases o with
  | none =>
    intro c hc
    obtain ⟨c', h1, _⟩ := R.low h c hc
    rw [e] at h1; cases h1
  | some c =>
    refine ⟨R.snd h c e, fun d hd => ?_⟩
    obtain ⟨c', h1, h2⟩ := R.low h d hd
    rw [e] at h1; cases h1
    exact h2
theorem LRow.imp {n : Nat} {A B : Nat → Nat → Prop} {row : CRow} (R : LRow n A row) (h1 : ∀ h c, A h c → B h c) (h2 : ∀ h c, B h c → ∃ c', A h c' ∧ c' ≤ c) : LRow n B row :=
  ⟨R.len, fun h c e => h1 h c (R.snd h c e), fun h c e => by
    obtain ⟨c', a, l⟩ := h2 h c e
    obtain ⟨c2, a2, l2⟩ := R.low h c' a
    exact ⟨c2, a2, Nat.le_trans l2 l⟩⟩
theorem LRow.lt {n : Nat} {A : Nat → Nat → Prop} {row : CRow} (R : LRow n A row) {h c : Nat} (a : A h c) : h < n := by
  obtain ⟨c', e, _⟩ := R.low h c a
  rw [← R.len]; exact (List.getElem?_eq_some_iff.mp e).1
theorem LRow.nothing (n : Nat) : LRow n (fun _ _ => False) (List.replicate n none) := by
  refine ⟨List.length_replicate, fun h c e => ?_, fun _ _ z => z.elim⟩
  rw [List.getElem?_replicate] at e
  split at e
  · cases e
  · cases e
/-- is v better than what stands there? -/
def Bet (o : Option Nat) (v : Nat) : Prop := ∀ c, o = some c → v < c
theorem LRow.put {n : Nat} {A : Nat → Nat → Prop} {row : CRow} (R : LRow n A row) {to v : Nat} {o : Option Nat} (h : row[to]? = some o) (b : Bet o v) : LRow n (fun h c => A h c ∨ (h = to ∧ c = v)) (row.set to (some v)) where
  len := by rw [List.length_set]; exact R.len
  snd := fun k c e => by
    rw [List.getElem?_set] at e
    by_cases q : to = k
    · subst q
      rw [if_pos rfl, if_pos (List.getElem?_eq_some_iff.mp h).1] at e
      cases e; exact .inr ⟨rfl, rfl⟩
    · rw [if_neg q] at e
      exact .inl (R.snd k c e)
  low := fun k c e => by
    by_cases q : to = k
    · subst q
      refine ⟨v, by rw [List.getElem?_set, if_pos rfl, if_pos (List.getElem?_eq_some_iff.mp h).1], ?_⟩
      rcases e with e | ⟨_, rfl⟩
      · obtain ⟨c', h1, h2⟩ := R.low to c e
        rw [h] at h1; cases h1
        exact Nat.le_trans (Nat.le_of_lt (b c' rfl)) h2
      · exact Nat.le_refl _
    · rcases e with e | ⟨rfl, _⟩
      · obtain ⟨c', h1, h2⟩ := R.low k c e
        exact ⟨c', by rw [List.getElem?_set, if_neg q]; exact h1, h2⟩
      · exact absurd rfl q
theorem LRow.keep {n : Nat} {A : Nat → Nat → Prop} {row : CRow} (R : LRow n A row) {to v : Nat} {o : Option Nat} (h : row[to]? = some o) (b : ¬ Bet o v) : LRow n (fun h c => A h c ∨ (h = to ∧ c = v)) row := by
  refine R.imp (fun _ _ => .inl) ?_
  rintro k c (e | ⟨rfl, rfl⟩)
  · exact ⟨c, e, Nat.le_refl _⟩
  · cases o with
    | none => exact absurd (fun _ z => nomatch z) b
    | some d =>
      refine ⟨d, R.snd _ _ h, ?_⟩
      apply Nat.le_of_not_lt
      intro l
      exact b fun c' z => by cases z; exact l
/-- closed under moves that read nothing -/
inductive Cl (S : Nat → Nat → Nat → Prop) (A : Nat → Nat → Prop) : Nat → Nat → Prop
  | beg {h c : Nat} : A h c → Cl S A h c
  | step {h c to d : Nat} : Cl S A h c → S h to d → Cl S A to (c + d)
/-- behind one move each -/
def Bh (S : Nat → Nat → Nat → Prop) (A : Nat → Nat → Prop) (to c : Nat) : Prop := ∃ h c0 d, A h c0 ∧ S h to d ∧ c = c0 + d
/-- a move is heeded -/
def Rx (row : CRow) (h to d : Nat) : Prop := ∀ c, row[h]? = some (some c) → ∃ c', row[to]? = some (some c') ∧ c' ≤ c + d
def wt (B : Nat) : Option Nat → Nat
  | none => B + 1
  | some c => c
def Phi (B : Nat) (row : CRow) : Nat := (row.map (wt B)).sum
theorem sum_set : ∀ (l : List Nat) (i x y : Nat), l[i]? = some y → (l.set i x).sum + y = l.sum + x
  | [], i, x, y, h => by cases i <;> cases h
  | a :: l, 0, x, y, h => by cases h; rw [List.set_cons_zero, List.sum_cons, List.sum_cons]; omega
  | a :: l, i + 1, x, y, h => by
    rw [List.set_cons_succ, List.sum_cons, List.sum_cons]
    have := sum_set l i x y h
    omega
theorem Phi_set {B : Nat} {row : CRow} {i x : Nat} {o : Option Nat} (h : row[i]? = some o) (l : x < wt B o) : Phi B (row.set i (some x)) < Phi B row := by
  unfold Phi
  rw [List.map_set]
  have := sum_set (row.map (wt B)) i (wt B (some x)) (wt B o) (by rw [List.getElem?_map, h]; rfl)
  have e : wt B (some x) = x := rfl
  rw [e] at this ⊢
  omega
theorem cnt_none : ∀ (l : CRow) (i x : Nat), l[i]? = some none → (l.set i (some x)).count none + 1 = l.count none
  | [], i, x, h => by cases i <;> cases h
  | a :: l, 0, x, h => by cases h; rw [List.set_cons_zero, List.count_cons, List.count_cons]; simp
  | a :: l, i + 1, x, h => by
    rw [List.set_cons_succ, List.count_cons, List.count_cons]
    have := cnt_none l i x h
    omega
theorem cnt_some : ∀ (l : CRow) (i x c : Nat), l[i]? = some (some c) → (l.set i (some x)).count none = l.count none
  | [], i, x, c, h => by cases i <;> cases h
  | a :: l, 0, x, c, h => by cases h; rw [List.set_cons_zero, List.count_cons, List.count_cons]; simp
  | a :: l, i + 1, x, c, h => by
    rw [List.set_cons_succ, List.count_cons, List.count_cons]
    have := cnt_some l i x c h
    omega
/-- a row while it is closed: S the moves, their costs at most D; at first nothing above M -/
structure Rlx (n : Nat) (S : Nat → Nat → Nat → Prop) (A : Nat → Nat → Prop) (M D : Nat) (row : CRow) : Prop where
  len : row.length = n
  snd : ∀ (h c : Nat), row[h]? = some (some c) → Cl S A h c
  low : ∀ h c, A h c → ∃ c', row[h]? = some (some c') ∧ c' ≤ c
  cap : ∀ (h c : Nat), row[h]? = some (some c) → c ≤ M + (n - row.count none) * D
theorem cnt_le (l : CRow) : l.count none ≤ l.length := List.count_le_length
section
variable {n : Nat} {S : Nat → Nat → Nat → Prop} {A : Nat → Nat → Prop} {M D : Nat} {row : CRow}
theorem Rlx.start (R : LRow n A row) (hM : ∀ (h c : Nat), row[h]? = some (some c) → c ≤ M) : Rlx n S A M D row :=
  ⟨R.len, fun h c e => .beg (R.snd h c e), R.low, fun h c e => Nat.le_trans (hM h c e) (Nat.le_add_right _ _)⟩
theorem Rlx.capB (R : Rlx n S A M D row) {h c : Nat} (e : row[h]? = some (some c)) : c ≤ M + n * D :=
  Nat.le_trans (R.cap h c e) (Nat.add_le_add_left (Nat.mul_le_mul_right _ (Nat.sub_le _ _)) _)
theorem Rlx.put (R : Rlx n S A M D row) {h to c d : Nat} {o : Option Nat} (hh : row[h]? = some (some c)) (s : S h to d) (hd : d ≤ D) (ho : row[to]? = some o) (b : Bet o (c + d)) :
    Rlx n S A M D (row.set to (some (c + d))) ∧ Phi (M + n * D) (row.set to (some (c + d))) < Phi (M + n * D) row := by
  have hl := (List.getElem?_eq_some_iff.mp ho).1
  have hcn := cnt_le row
  have hln := R.len
  have key : c + d ≤ M + (n - (row.set to (some (c + d))).count none) * D ∧ (n - row.count none) * D ≤ (n - (row.set to (some (c + d))).count none) * D ∧ c + d < wt (M + n * D) o := by
    have h1 := R.cap h c hh
    cases o with
    | none =>
      have h2 := cnt_none row to (c + d) ho
      have h3 : n - (row.set to (some (c + d))).count none = (n - row.count none) + 1 := by omega
      rw [h3, Nat.succ_mul]
      have h4 : (n - row.count none + 1) * D ≤ n * D := Nat.mul_le_mul_right _ (by omega)
      rw [Nat.succ_mul] at h4
      exact ⟨by omega, by omega, by show c + d < M + n * D + 1; omega⟩
    | some e =>
      rw [cnt_some row to (c + d) e ho]
      have h2 := b e rfl
      have h3 := R.cap to e ho
      exact ⟨by omega, by omega, h2⟩
  refine ⟨⟨by rw [List.length_set]; exact R.len, fun k c' e => ?_, fun k c' e => ?_, fun k c' e => ?_⟩, Phi_set ho key.2.2⟩
  · rw [List.getElem?_set] at e
    by_cases q : to = k
    · subst q
      rw [if_pos rfl, if_pos hl] at e
      cases e
      exact .step (R.snd h c hh) s
    · rw [if_neg q] at e
      exact R.snd k c' e
  · obtain ⟨c2, h1, h2⟩ := R.low k c' e
    by_cases q : to = k
    · subst q
      rw [ho] at h1; cases h1
      exact ⟨c + d, by rw [List.getElem?_set, if_pos rfl, if_pos hl], Nat.le_trans (Nat.le_of_lt (b c2 rfl)) h2⟩
    · exact ⟨c2, by rw [List.getElem?_set, if_neg q]; exact h1, h2⟩
  · rw [List.getElem?_set] at e
    by_cases q : to = k
    · subst q
      rw [if_pos rfl, if_pos hl] at e
      cases e
      exact key.1
    · rw [if_neg q] at e
      exact Nat.le_trans (R.cap k c' e) (Nat.add_le_add_left key.2.1 _)
/-- the other moves stay heeded -/
theorem Rx.put {to v k t2 d2 : Nat} {o : Option Nat} (ho : row[to]? = some o) (b : Bet o v) (ne : k ≠ to) (r : Rx row k t2 d2) : Rx (row.set to (some v)) k t2 d2 := by
  intro c e
  have hl := (List.getElem?_eq_some_iff.mp ho).1
  rw [List.getElem?_set, if_neg ne.symm] at e
  obtain ⟨c', h1, h2⟩ := r c e
  by_cases q : to = t2
  · subst q
    rw [ho] at h1; cases h1
    exact ⟨v, by rw [List.getElem?_set, if_pos rfl, if_pos hl], Nat.le_trans (Nat.le_of_lt (b c' rfl)) h2⟩
  · exact ⟨c', by rw [List.getElem?_set, if_neg q]; exact h1, h2⟩
theorem Rx.here {h to c d : Nat} {o : Option Nat} (hh : row[h]? = some (some c)) (ho : row[to]? = some o) (b : Bet o (c + d)) : Rx (row.set to (some (c + d))) h to d := by
  intro c2 e
  have hl := (List.getElem?_eq_some_iff.mp ho).1
  refine ⟨c + d, by rw [List.getElem?_set, if_pos rfl, if_pos hl], ?_⟩
  rw [List.getElem?_set] at e
  by_cases q : to = h
  · subst q
    rw [hh] at ho; cases ho
    exact absurd (b c rfl) (by omega)
  · rw [if_neg q, hh] at e; cases e
    exact Nat.le_refl _
theorem Rx.well {h to c d : Nat} {o : Option Nat} (hh : row[h]? = some (some c)) (ho : row[to]? = some o) (b : ¬ Bet o (c + d)) : Rx row h to d := by
  intro c2 e
  rw [hh] at e; cases e
  cases o with
  | none => exact absurd (fun _ z => nomatch z) b
  | some e =>
    refine ⟨e, ho, Nat.le_of_not_lt fun l => b fun c' z => by cases z; exact l⟩
theorem Rlx.done (R : Rlx n S A M D row) (h : ∀ k to d, S k to d → Rx row k to d) : LRow n (Cl S A) row where
  len := R.len
  snd := R.snd
  low := fun k c e => by
    induction e with
    | beg e => exact R.low _ _ e
    | step _ s ih =>
      obtain ⟨c', h1, h2⟩ := ih
      obtain ⟨c2, h3, h4⟩ := h _ _ _ s c' h1
      exact ⟨c2, h3, by omega⟩
end
theorem row_max (row : CRow) : ∃ M, ∀ (h c : Nat), row[h]? = some (some c) → c ≤ M := by
  induction row with
  | nil => exact ⟨0, fun h c e => by cases h <;> cases e⟩
  | cons o row ih =>
    obtain ⟨M, hM⟩ := ih
    refine ⟨M + wt 0 o, fun h c e => ?_⟩
    cases h with
    | zero => cases e; show c ≤ M + c; omega
    | succ h => have := hM h c e; omega
theorem list_max (l : List Nat) : ∃ M, ∀ x ∈ l, x ≤ M := by
  induction l with
  | nil => exact ⟨0, fun _ h => nomatch h⟩
  | cons a l ih =>
    obtain ⟨M, hM⟩ := ih
    refine ⟨M + a, fun x h => ?_⟩
    rcases List.mem_cons.mp h with rfl | h
    · omega
    · have := hM x h; omega
theorem bet_none {v : Nat} : Bet none v := fun _ z => nomatch z
theorem bet_some {e v : Nat} : Bet (some e) v ↔ v < e := ⟨fun h => h e rfl, fun h c z => by cases z; exact h⟩
/-- sets closed, behind: they keep what is the same -/
theorem Cl.congr {S : Nat → Nat → Nat → Prop} {A B : Nat → Nat → Prop} (h : ∀ x c, A x c → B x c) {x c : Nat} (q : Cl S A x c) : Cl S B x c := by
  induction q with
  | beg e => exact .beg (h _ _ e)
  | step _ s ih => exact .step ih s
end Fm
/-! the least number of a set, as a function -/
namespace Fm
open PySem L2
theorem least_ex (A : Nat → Prop) : ∃ o, Least A o := by
  by_cases h : ∃ c, A c
  · obtain ⟨c, hc⟩ := h
    induction c using Nat.strongRecOn with
    | _ c ih =>
      by_cases q : ∃ d, d < c ∧ A d
      · obtain ⟨d, h1, h2⟩ := q
        exact ih d h1 h2
      · exact ⟨some c, hc, fun d hd => Nat.le_of_not_lt fun l => q ⟨d, l, hd⟩⟩
  · exact ⟨none, fun c hc => h ⟨c, hc⟩⟩
noncomputable def least (A : Nat → Prop) : Option Nat := Classical.choose (least_ex A)
theorem least_is (A : Nat → Prop) : Least A (least A) := Classical.choose_spec (least_ex A)
theorem least_eq {A : Nat → Prop} {o : Option Nat} (h : Least A o) : least A = o := (least_is A).uniq h
theorem Least.eq {A : Nat → Prop} {o : Option Nat} (h : Least A o) : o = least A := h.uniq (least_is A)
/-- sets with the same least number: each holds something at most what the other one holds -/
theorem least_same {A B : Nat → Prop} (h1 : ∀ c, A c → ∃ d, B d ∧ d ≤ c) (h2 : ∀ c, B c → ∃ d, A d ∧ d ≤ c) : least A = least B := by
  apply least_eq
  cases e : least B with
  | none =>
    intro c hc
    obtain ⟨d, hd, _⟩ := h1 c hc
    have := least_is B
    rw [e] at this
    exact this d hd
  | some b =>
    have hb := least_is B
    rw [e] at hb
    obtain ⟨d, hd, hl⟩ := h2 b hb.1
    obtain ⟨d2, hd2, hl2⟩ := h1 d hd
    have h3 := hb.2 d2 hd2
    have : d = b := by omega
    subst this
    refine ⟨hd, fun c hc => ?_⟩
    obtain ⟨d3, hd3, hl3⟩ := h1 c hc
    have := hb.2 d3 hd3
    omega
theorem least_congr {A B : Nat → Prop} (h : ∀ c, A c ↔ B c) : least A = least B := by
  have : A = B := funext fun c => propext (h c)
  rw [this]
theorem joinL_chars : ∀ l : List Nat, TL.joinL [] (l.map fun c => [c]) = l
  | [] => rfl
  | [c] => rfl
  | c :: d :: l => by
    show [c] ++ ([] ++ TL.joinL [] ((d :: l).map fun c => [c])) = _
    rw [joinL_chars (d :: l)]; rfl
theorem join_chars (l : List Nat) : PySem.Txt.join ⟨([] : List Nat).toArray⟩ ((l.map fun c => [c]).map SX.S) = ⟨l.toArray⟩ := by
  have := SX.join_S [] (l.map fun c => [c])
  rw [joinL_chars] at this
  exact this
theorem oV_scal (o p : Option Nat) : scal (oV o) (oV p) = true := by cases o <;> cases p <;> rfl
theorem oV_dec (o p : Option Nat) : decide (oV o = oV p) = decide (o = p) := by
  have : (oV o = oV p) ↔ o = p := by
    constructor
    · intro h
      cases o with
      | none => cases p with
        | none => rfl
        | some d => cases h
      | some c => cases p with
        | none => cases h
        | some d =>
          have := V.int.inj h
          rw [Int.ofNat.inj this]
    · intro h; rw [h]
  exact decide_eq_decide.mpr this
theorem rep_oV (n : Nat) : (List.replicate n [V.non]).flatten = (List.replicate n none : CRow).map oV := by
  induction n with
  | zero => rfl
  | succ n ih => rw [List.replicate_succ, List.replicate_succ, List.flatten_cons, ih]; rfl
theorem oV_none {o : Option Nat} : decide (oV o = V.non) = o.isNone := by
  cases o <;> rfl
end Fm
/-! set(..) of a list, by what each item's adding keeps -/
namespace Fm
open PySem PySem.Spec PyProof.Rows L2
abbrev bareSet (w : World) : Obj := { cls := .type "set", dict := none, data := .set #[] 0 (.fresh 0 0 (!w.params.followText "set-order")) }
section
variable {P : Program} {w : World} {A : Around} {s : Shared}
/-- what adding the items does to the set at S: Iv i holds behind i of them; all that h0 knew stands -/
structure Adds (P : Program) (w : World) (A : Around) (S : Addr) (h0 : Heap) (n : Nat) (Pv : Nat → Value → Prop) (Iv : Nat → Heap → Prop) : Prop where
  still : ∀ {i : Nat} {h h' : Heap}, Iv i h → (∀ o, h.get? S = some o → h'.get? S = some o) → (∀ b o, h0.get? b = some o → h'.get? b = some o) → Iv i h'
  add : ∀ {i : Nat} {v : Value} {s : Shared} {E : Value → Shared → Prop} {Q : Bool → Shared → Prop}, i < n → Pv i v → Iv i s.heap → (∀ b o, h0.get? b = some o → s.heap.get? b = some o) →
    (∀ (b : Bool) (h' : Heap) (tk : Nat), Heap.SameBut S s.heap h' → Iv (i + 1) h' → s.toks ≤ tk → Q b { s with heap := h', toks := tk }) → wpAny (model P w) A (setAdd S v) Q E s
theorem set_loop {I S : Addr} {fp wr : List Addr} {G : Array GenState → Array GenState → Prop} {n : Nat} {Pv : Nat → Value → Prop} {St : Nat → Shared → Prop} {R : Result → Shared → Prop} {h0 : Heap} {Iv : Nat → Heap → Prop}
    (W : WalksS P w A.in1 I fp wr G n Pv St) (hSf : S ∉ fp) (ad : Adds P w A.in1 S h0 n Pv Iv) (hS0 : h0.get? S = none) (hw0 : ∀ b ∈ wr, h0.get? b = none) :
    ∀ (k i : Nat) (s : Shared), i + k = n → St i s → (∀ b o, h0.get? b = some o → s.heap.get? b = some o) → Iv i s.heap →
      (∀ s', Moved (S :: wr) G s s' → Iv n s'.heap → (∀ b o, h0.get? b = some o → s'.heap.get? b = some o) → R (.ok (.ret .none)) s') →
      codeAny (model P w) A (.builtin "set.update.loop" ⟨[.ref S, .ref I], []⟩) R s := by
  have nSw : S ∉ wr := fun z => hSf (W.sub _ z)
  have wide : ∀ b ∈ wr, b ∈ S :: wr := fun b hb => List.mem_cons_of_mem _ hb
  have old : ∀ {s s' : Shared}, Moved wr G s s' → (∀ b o, h0.get? b = some o → s.heap.get? b = some o) → ∀ b o, h0.get? b = some o → s'.heap.get? b = some o := fun mv kp b o e =>
    mv.heap b o (fun z => by have := hw0 b z; rw [e] at this; cases this) (kp b o e)
  intro k
  induction k with
  | zero =>
    intro i s hik hst hkp hI hR
    have e : i = n := by omega
    subst e
    refine codeAny_builtin F.entry_set_update_loop ?_
    rw [Around.under_plainId F.plain_set_update_loop _]
    show wpAny (model P w) A.in1 (pyNext (.ref I) >>= _) _ _ s
    refine wpAny_bind (W.done s _ _ hst fun s' mv => ?_)
    show wpAny (model P w) A.in1 (ret Value.none) _ _ s'
    exact wpAny_pure (hR s' (mv.mono wide) (ad.still hI (fun o e => mv.heap S o nSw e) (old mv hkp)) (old mv hkp))
  | succ k ih =>
    intro i s hik hst hkp hI hR
    refine codeAny_builtin F.entry_set_update_loop ?_
    rw [Around.under_plainId F.plain_set_update_loop _]
    show wpAny (model P w) A.in1 (pyNext (.ref I) >>= _) _ _ s
    refine wpAny_bind (W.item i s _ _ (by omega) hst fun v s' hP hst' mv => ?_)
    show wpAny (model P w) A.in1 (holding [v] (setAdd S v) >>= _) _ _ s'
    refine wpAny_bind (wpAny_holding (ad.add (by omega) hP (ad.still hI (fun o e => mv.heap S o nSw e) (old mv hkp)) (old mv hkp) fun b h' tk sb hI2 htk => ?_))
    have kp2 : ∀ b o, h0.get? b = some o → h'.get? b = some o := fun b o e => (sb.2 b fun z => by rw [z, hS0] at e; cases e).trans (old mv hkp b o e)
    refine wpAny_pure ⟨plainId_quiet F.plain_set_update_loop _, ih (i + 1) _ (by omega) (W.frame _ s' _ _ hst' htk fun b hb o e => (sb.2 b fun z => hSf (z ▸ hb)).trans e) kp2 hI2 fun s2 mv2 hI3 kp3 => ?_⟩
    exact hR s2 (Moved.trans W.gtrans ((mv.mono wide).then_heap htk fun b o hb e => (sb.2 b fun z => hb (by rw [z]; exact List.mem_cons_self)).trans e) mv2) hI3 kp3
theorem none_over {h : Heap} {b : Addr} (hb : h.objs.size ≤ b) : h.get? b = none := by
  cases q : h.get? b with
  | none => rfl
  | some o => exact absurd (Nat.lt_of_lt_of_le (Heap.lt_size q) hb) (Nat.lt_irrefl _)
set_option maxHeartbeats 6400000 in
/-- set(xs), xs a list -/
theorem call_set_gen {E : Value → Shared → Prop} {l : Addr} {items : Array Value} {Iv : Nat → Heap → Prop} {Q : Value → Shared → Prop} (hh : A.handled = none) (hl : s.heap.IsList l items)
    (ad : ∀ A' : Around, A'.units ≤ A.units + 3 → A'.handled = none → Adds P w A' s.heap.objs.size s.heap items.size (fun i v => items[i]? = some v) Iv)
    (h0 : ∀ h : Heap, h.get? s.heap.objs.size = some (bareSet w) → (∀ b o, s.heap.get? b = some o → h.get? b = some o) → Iv 0 h)
    (hQ : ∀ (h' : Heap) (tk : Nat), Iv items.size h' → (∀ b o, s.heap.get? b = some o → h'.get? b = some o) → Q (.ref s.heap.objs.size) { s with heap := h', toks := tk }) :
    wpAny (model P w) A (call (.type "set") [.ref l]) Q E s := by
  obtain ⟨c, tl, hmro⟩ := F.called_set.mro
  have hmade := F.called_set.made
  have hsub := F.called_set.sub
  refine wpAny_call (codeAny_of_tree ?_)
  show wpAny _ _ (callAny (.type "set") _) _ _ _
  refine wpAny_pure ⟨Code.quiet_builtin _ (by decide +kernel), codeAny_builtin F.entry_type_call ?_⟩
  rw [Around.under_plain (weight_type_call_type "set" [.ref l] []) rfl]
  have h1 := F.called_set.notType
  have h2 := F.called_set.canCreate
  have hct := F.typeCall_set_1 (.ref l)
  repeat (any_goals (first | assumption | wp_step))
  refine codeAny_mono (code_set_led1 (.ref l) (E := E) (Q₁ := fun z s₁ => z = .ref s.heap.objs.size ∧ s₁ = { s with heap := s.heap.push (bareSet w) }) ⟨rfl, rfl⟩) fun r s₁ hr => ?_
  cases r with
  | error e => exact hr
  | ok fl =>
    cases fl with
    | ret z =>
      obtain ⟨rfl, rfl⟩ := hr
      have hS : (s.heap.push (bareSet w)).get? s.heap.objs.size = some (bareSet w) := Heap.get?_push_size _ rfl
      have hT : Shared.TypeIs { s with heap := s.heap.push (bareSet w) } (.ref s.heap.objs.size) "set" := ⟨_, hS, rfl⟩
      have hli := F.called_set.init.lookup
      have hbi := F.called_set.init.bind (.ref s.heap.objs.size)
      repeat (any_goals (first | assumption | wp_step))
      refine codeAny_mono (codeAny_call_builtin (R := wants (fun r s₂ => r = .none ∧ ∃ h' tk, s₂ = { s with heap := h', toks := tk } ∧ Iv items.size h' ∧ (∀ b o, s.heap.get? b = some o → h'.get? b = some o)) E) F.called_set.init.plain F.entry_set_init (check_set_init_1 hT ?_)) fun r₂ s₂ hr₂ => ?_
      · obtain ⟨ol, hol, hcl, nl, hdl⟩ := hl
        obtain ⟨ocls, odict, odata, oslots⟩ := ol
        simp only at hcl hdl
        subst hcl; subst hdl
        have hol' : (s.heap.push (bareSet w)).get? l = some { cls := .type "list", dict := odict, data := .seq items nl, slots := oslots } := Heap.get?_push_of_some _ hol
        have hsls := F.sub_list_set
        have hslf := F.sub_list_frozenset
        have hne : (Value.type "list" == Value.type "dict") = false := by decide
        have hl1 : (s.heap.push (bareSet w)).IsList l items := ⟨_, hol', rfl, nl, rfl⟩
        unfold Builtin.«set.__init__» noKeywords Builtin.Frozenset.updateFrom
        generalize hPI : pyIter = PI
        wp_walk
        subst hPI
        refine wpAny_pyIter_list hl1 ?_
        refine wpAny_bind (wpAny_runValue ?_)
        have hlS : l < s.heap.objs.size := Heap.lt_size hol
        have hh3 : A.in1.in1.in1.handled = none := by simp [hh]
        have hz : (s.heap.push (bareSet w)).objs.size = s.heap.objs.size + 1 := Heap.size_push ..
        refine set_loop ((Walks.list hh3 _ l (by rw [hz]; exact Nat.ne_of_lt (Nat.lt_succ_of_lt hlS)) items).toS) ?_ (ad _ ?_ hh3) (none_over (Nat.le_refl _)) (fun b hb => none_over (by
            rw [List.mem_singleton.mp hb, hz]
            exact Nat.le_succ _)) items.size 0 _ (by omega) ⟨⟨_, Heap.get?_push_size _ rfl, rfl, rfl⟩, (hl1.push _)⟩ (fun b o e => Heap.get?_push_of_some _ (Heap.get?_push_of_some _ e)) (h0 _ (Heap.get?_push_of_some _ hS) fun b o e => Heap.get?_push_of_some _ (Heap.get?_push_of_some _ e)) ?_
        · rw [hz]; simp only [List.mem_cons, List.mem_singleton, List.not_mem_nil, or_false, not_or]
          exact ⟨Nat.ne_of_lt (Nat.lt_succ_self _), Nat.ne_of_gt hlS⟩
        · exact Nat.le_refl _
        · intro s' mv hI kp
          obtain ⟨h', g2, d', tk', os'⟩ := s'
          have eg : g2 = s.gens := mv.gens
          have ed : d' = s.drawn := mv.drawn
          have eo : os' = s.os := mv.os
          subst eg; subst ed; subst eo
          show wpAny _ _ _ _ _ _
          refine wpAny_pure ?_
          show wpAny _ _ (ret Value.none) _ _ _
          exact wpAny_pure ⟨rfl, h', tk', rfl, hI, kp⟩
      · cases r₂ with
        | error e => exact hr₂
        | ok fl₂ =>
          cases fl₂ with
          | ret r =>
            obtain ⟨rfl, h', tk, rfl, hI, kp⟩ := hr₂
            repeat (any_goals (first | assumption | wp_step))
            exact hQ _ _ hI kp
          | _ => exact hr₂.elim
    | _ => exact hr.elim
end
end Fm
/-! sets of ints, of tuples of ints and texts -/
namespace Fm
open PySem PySem.Spec PyProof.Rows L2
/-! ### sets of ints -/
section
variable {P : Program} {w : World} {A : Around} {s : Shared}
theorem setR_bare {h : Heap} {a : Addr} (e : h.get? a = some (bareSet w)) : SetR w h a (fun _ => false) 0 :=
  ⟨_, #[], 0, _, e, ⟨rfl, rfl, rfl⟩, rfl, fun x hx => (by cases hx), List.nodup_nil, fun k => ⟨fun z => (by cases z), fun z => (by cases z)⟩, by decide, rfl, rfl, List.Pairwise.nil, by
    show _ ∨ (!w.params.followText "set-order") = true
    cases w.params.followText "set-order"
    · exact .inr rfl
    · exact .inl rfl⟩
theorem adds_ints {S : Addr} {h0 : Heap} {items : Array Value} {ns : List Int} (hit : ∀ (i : Nat) (v : Value), items[i]? = some v → ∃ k tk, v = Value.int k tk ∧ ns[i]? = some k) (hfew : items.size < 1000) :
    Adds P w A S h0 items.size (fun i v => items[i]? = some v) fun i h => ∃ n, n ≤ i ∧ SetR w h S (fun j => decide (j ∈ ns.take i)) n where
  still := fun ⟨n, hn, R⟩ k _ => ⟨n, hn, R.at k⟩
  add := by
    intro i v s E Q hi hv hI kp hQ
    obtain ⟨n, hn, R⟩ := hI
    obtain ⟨k, tk, rfl, hk⟩ := hit i v hv
    unfold setAdd
    refine wpAny_holding ?_
    refine wpAny_bind ((intKind P w).pyHash (intKind_is P w k tk) ?_)
    refine setR_add_hashed (s := { s with toks := s.toks + 1 }) R (by unfold scanBound; omega) fun h' sb R' => ?_
    refine hQ _ h' _ sb ⟨_, ?_, R'.congr fun j => ?_⟩ (Nat.le_succ _)
    · split <;> omega
    · rw [List.take_add_one, hk, Bool.eq_iff_iff]
      simp
end
section
variable {X : Cx} {K : PySem.W.Frag} {w : World}
/-- set(xs), xs a list of ints -/
def rSetI (K : PySem.W.Frag) (w : World) : List V → Hp → VK → Prop := fun xs H Q => ∃ (l : Addr) (ns : List Int), xs = [V.ref l] ∧ SqL K H l (ns.map V.int) ∧ ns.length < 64 ∧
  ∀ (a : Addr) (n : Nat), H a = none → n ≤ ns.length → Q (.ref a) (upd H a (SetO w a (fun j => decide (j ∈ ns)) n))
theorem kc_setI (h : X.K = K) (hw : X.w = w) (hc : X.calm = true) : CallR X (.type "set") (rSetI K w) := by
  subst h hw
  intro pins s σ H xs us Q I r h
  obtain ⟨l, ns, rfl, hl, hf, q⟩ := h
  rw [Vals.ref1 r]
  obtain ⟨its, rv, pl, hz⟩ := I.list hl
  have hsz : its.toArray.size = ns.length := by rw [List.size_toArray, ← rv.length, List.length_map]
  have hn : H s.heap.objs.size = none := I.hok.fresh (Nat.le_refl _)
  have hit : ∀ (i : Nat) (v : Value), its.toArray[i]? = some v → ∃ k tk, v = Value.int k tk ∧ ns[i]? = some k := fun i v e => by
    rw [List.getElem?_toArray] at e
    clear hsz hz pl hl q hn hf
    generalize hm : ns.map V.int = ms at rv
    induction rv generalizing ns i with
    | nil => cases e
    | cons h1 _ ih =>
      cases ns with
      | nil => cases hm
      | cons n ns =>
        rw [List.map_cons] at hm
        injection hm with h2 h3
        subst h2
        cases i with
        | zero =>
          cases e
          obtain ⟨t, ht⟩ := h1
          exact ⟨n, t, ht, rfl⟩
        | succ i => exact ih _ i e h3
  refine call_set_gen (w := X.w) (Iv := fun i h => ∃ n, n ≤ i ∧ SetR X.w h s.heap.objs.size (fun j => decide (j ∈ ns.take i)) n) (I.ok.hd hc) pl.isList (fun A' _ _ => adds_ints hit (by omega)) (fun h e _ => ⟨0, Nat.le_refl _, setR_bare e⟩) fun h' tk ⟨n, hn2, R⟩ kp => ?_
  rw [hsz, List.take_length] at R
  exact ⟨.ref s.heap.objs.size, _, I.laid (t' := tk) kp (Nat.le_refl _) (setO_new R), rfl, q _ n hn (by omega)⟩
theorem kc_sortedSet (hw : X.w = w) (hc : X.calm = true) : CallR X (.builtin "sorted") (rSortedSet w) := by subst hw; exact cr_sortedSet hc
end
end Fm
/-! sets of tuples of ints and texts: what is in such a set came from the list -/
namespace Fm
open PySem PySem.Spec PyProof.Rows L2
abbrev thM (P : Program) (w : World) (k : List Key) : Int := tupleKeyHash (mixKind P w) k
abbrev IsM (P : Program) (w : World) (h : Heap) (k : List Key) (a : Addr) : Prop := IsTupleKey (mixKind P w) h k a
abbrev TL := List (Addr × List Key)
def rowM (P : Program) (w : World) (L : TL) : List (Int × Value) := L.map fun p => (thM P w p.2, Value.ref p.1)
structure SetM (P : Program) (w : World) (h : Heap) (a : Addr) (L : TL) (es : Array (Int × Value)) (ep : Nat) (t : SetTable) : Prop where
  ob : ∃ o, h.get? a = some o ∧ o.ExactSet ∧ o.data = .set es ep t
  rows : es.toList = rowM P w L
  tab : TabOk t (L.map fun p => thM P w p.2)
  tup : ∀ p ∈ L, IsM P w h p.2 p.1
  led : w.params.followText "set-order" = true ∨ t.led = true
  room : L.length * 5 < t.mask * 3
  few : L.length < 64
section
variable {P : Program} {w : World} {A : Around} {E : Value → Shared → Prop} {s : Shared}
theorem itemM {k : List Key} {vs : List Value} (h : ItemsAre (mixKind P w) k vs) : ∀ v ∈ vs, (∃ i t, v = Value.int i t) ∨ ∃ x t, v = Value.str x t := by
  induction h with
  | nil => intro v hv; cases hv
  | cons h1 _ ih =>
    intro v hv
    rcases List.mem_cons.mp hv with e | hv
    · rcases keyIs_shape h1 with ⟨i, t, _, e2⟩ | ⟨x, t, _, e2⟩
      · exact .inl ⟨i, t, e.trans e2⟩
      · exact .inr ⟨x, t, e.trans e2⟩
    · exact ih v hv
theorem classM {k : List Key} {b : Addr} {Q : Bool → Shared → Prop} (hk : IsM P w s.heap k b) (h : Q false s) : wpAny (model P w) A (ofAClassStatement 8 (.ref b)) Q E s := by
  have hT := hk.typeIs
  obtain ⟨o, items, n, ho, _, hd, hi⟩ := hk
  unfold ofAClassStatement
  refine wpAny_bind (wpAny_typeOf hT ?_)
  dsimp only
  have e : (("tuple" : String) == "tuple") = true := by decide
  simp only [e, if_true, Bool.not_true, Bool.false_eq_true, if_false]
  try refine wpAny_bind (wpAny_pure ?_)
  try simp only [Bool.not_true, Bool.false_eq_true, if_false]
  show wpAny _ _ (seqItems? (.ref b) >>= _) _ _ s
  refine wpAny_bind (wpAny_seqItems ho hd ?_)
  dsimp only
  refine wpAny_bind ?_
  show wpAny _ _ (forIn items _ _) _ _ s
  rw [← Array.forIn_toList]
  refine wpAny_forIn_list _ (fun rest r s' => r.1 = none ∧ s' = s ∧ ∀ v ∈ rest, (∃ i t, v = Value.int i t) ∨ ∃ x t, v = Value.str x t) _ ?_ ?_ _ _ ⟨rfl, rfl, itemM hi⟩
  · rintro v rest r s' ⟨hr, rfl, hall⟩
    have e1 : ofAClassStatement 7 v = pure false := by
      rcases hall v List.mem_cons_self with ⟨i, t, rfl⟩ | ⟨x, t, rfl⟩ <;> rfl
    rw [e1]
    refine wpAny_bind (wpAny_pure ?_)
    simp only [Bool.false_eq_true, if_false]
    exact wpAny_pure ⟨rfl, rfl, fun u hu => hall u (List.mem_cons_of_mem _ hu)⟩
  · rintro ⟨r1, r2⟩ s' ⟨hr, rfl, _⟩
    simp only at hr
    subst hr
    exact wpAny_pure h
theorem hashM {k : List Key} {b : Addr} {Q : Bool → Shared → Prop} (hk : IsM P w s.heap k b) (h : ∀ c, Q c s) : wpAny (model P w) A (hashByValue 8 (.ref b)) Q E s := by
  have hT := hk.typeIs
  obtain ⟨o, items, n, ho, _, hd, hi⟩ := hk
  unfold hashByValue
  refine wpAny_bind (wpAny_specialOf hT F.slot_tuple_hash.lookup ?_)
  show wpAny _ _ (seqItems? (.ref b) >>= _) _ _ s
  refine wpAny_bind (wpAny_seqItems ho hd ?_)
  refine wpAny_bind ?_
  show wpAny _ _ (forIn items _ _) _ _ s
  rw [← Array.forIn_toList]
  refine wpAny_forIn_list _ (fun rest r s' => r.1 = none ∧ s' = s ∧ ∀ v ∈ rest, (∃ i t, v = Value.int i t) ∨ ∃ x t, v = Value.str x t) _ ?_ ?_ _ _ ⟨rfl, rfl, itemM hi⟩
  · rintro v rest r s' ⟨hr, rfl, hall⟩
    rcases hall v List.mem_cons_self with ⟨i, t, rfl⟩ | ⟨x, t, rfl⟩
    · rw [show hashByValue 7 (.int i t) = pure true from rfl]
      refine wpAny_bind (wpAny_pure ?_)
      simp only [Bool.not_true, Bool.false_eq_true, if_false]
      exact wpAny_pure ⟨rfl, rfl, fun u hu => hall u (List.mem_cons_of_mem _ hu)⟩
    · rw [show hashByValue 7 (.str x t) = pure false from rfl]
      refine wpAny_bind (wpAny_pure ?_)
      simp only [Bool.not_false, if_true]
      exact wpAny_pure (wpAny_pure (h false))
  · rintro ⟨r1, r2⟩ s' ⟨hr, rfl, _⟩
    simp only at hr
    subst hr
    exact wpAny_pure (h true)
theorem seenM {k : List Key} {b : Addr} {Q : Bool → Shared → Prop} (hk : IsM P w s.heap k b) {ys : List Value} (hy : ∀ y ∈ ys, ∃ k' c, y = Value.ref c ∧ IsM P w s.heap k' c) (h : Q false s) :
    wpAny (model P w) A (searchCouldBeSeen (.ref b) ys) Q E s := by
  unfold searchCouldBeSeen
  refine wpAny_bind ?_
  refine wpAny_forIn_list _ (fun rest r s' => r.1 = none ∧ s' = s ∧ ∀ y ∈ rest, ∃ k' c, y = Value.ref c ∧ IsM P w s.heap k' c) _ ?_ ?_ _ _ ⟨rfl, rfl, hy⟩
  · rintro v rest r s' ⟨hr, rfl, hall⟩
    obtain ⟨k', c, rfl, hc⟩ := hall v List.mem_cons_self
    have more : ∀ y ∈ rest, ∃ k' c, y = Value.ref c ∧ IsM P w s'.heap k' c := fun u hu => hall u (List.mem_cons_of_mem _ hu)
    dsimp only
    by_cases hv : (b == c || (carriedByValue (.ref b) && carriedByValue (.ref c))) = true
    · exact wp_if_pos hv (wpAny_pure ⟨rfl, rfl, more⟩)
    · refine wp_if_neg hv ?_
      refine wpAny_bind (wpAny_eqIsQuiet_tuple hk ?_)
      simp only [Bool.not_true, Bool.false_eq_true, if_false]
      refine wpAny_bind (wpAny_eqIsQuiet_tuple hc ?_)
      simp only [Bool.not_true, Bool.false_eq_true, if_false]
      refine wpAny_bind (classM hk ?_)
      simp only [Bool.false_eq_true, if_false]
      refine wpAny_bind (classM hc ?_)
      simp only [Bool.false_eq_true, if_false]
      exact wpAny_pure ⟨rfl, rfl, more⟩
  · rintro ⟨r1, r2⟩ s' ⟨hr, rfl, _⟩
    simp only at hr
    subst hr
    exact wpAny_pure h
variable {a : Addr} {L : TL} {es : Array (Int × Value)} {ep : Nat} {t : SetTable} {h h' : Heap}
theorem rowM_size (e : es.toList = rowM P w L) : es.size = L.length := by
  have := congrArg List.length e
  unfold rowM at this
  rwa [Array.length_toList, List.length_map] at this
theorem SetM.fits (R : SetM P w h a L es ep t) : t.fits es.size = true := by
  have h1 := R.tab.sz
  rw [List.length_map] at h1
  have h2 := rowM_size R.rows
  have h3 := R.room
  unfold SetTable.fits SetTable.fill
  rw [R.tab.dm, Bool.and_eq_true, beq_iff_eq, decide_eq_true_eq]
  show t.place.size = es.size ∧ t.place.size + 0 ≤ t.mask
  omega
theorem rowM_at (e : es.toList = rowM P w L) {i : Nat} {p : Addr × List Key} (q : L[i]? = some p) : es[i]? = some (thM P w p.2, Value.ref p.1) := by
  rw [← Array.getElem?_toList, e]
  unfold rowM
  rw [List.getElem?_map, q]
  rfl
theorem stepM (t : SetTable) (hsh : Int) (c : Nat) : (nth t.mask (runAt t.mask (SetTable.bits hsh % (t.mask + 1)) (SetTable.bits hsh)) c).dummy = none := by
  have key : ∀ (n : Nat) (p : SetTable.Probe), p.dummy = none → (nth t.mask p n).dummy = none := by
    intro n
    induction n with
    | zero => exact fun _ h => h
    | succ n ih =>
      intro p h
      refine ih (adv t.mask p) ?_
      unfold adv
      split <;> exact h
  exact key c _ rfl
/-- a search ends: it finds an equal one, or the first free slot of the way -/
theorem SetM.find (R : SetM P w s.heap a L es ep t) {x : Addr} {k : List Key} (hx : IsM P w s.heap k x) (hu : A.units < cLine) {Z : Nat} (hZf : Z < 10 * SetTable.turns t.mask)
    (hZ : way t.mask (thM P w k) Z ∉ t.place.toList) (hZb : ∀ c, c < Z → way t.mask (thM P w k) c ∈ t.place.toList) {Q : SetFound → Shared → Prop}
    (hin : (∃ p ∈ L, p.2 = k) → Q (.there none) s) (hout : Q (.free (way t.mask (thM P w k) Z) false) s) :
    ∀ (f c : Nat) (stand : Option SetTable.Probe), stand.getD (t.probeStart (thM P w k)) = nth t.mask (runAt t.mask (SetTable.bits (thM P w k) % (t.mask + 1)) (SetTable.bits (thM P w k))) c → c ≤ Z → Z - c < f →
      wpAny (model P w) A (setSearchFrom a (.ref x) (thM P w k) true f stand) Q E s := by
  obtain ⟨o, ho, hex, hd⟩ := R.ob
  intro f
  induction f with
  | zero => intro c stand _ _ hf; exact absurd hf (Nat.not_lt_zero _)
  | succ f ih =>
    intro c stand hst hc hf
    rw [setSearchFrom_succ]
    refine wpAny_bind (wpAny_setState_of ho hd R.fits ?_)
    dsimp only
    have gw : ¬ t.gaveWay = true := by
      unfold SetTable.gaveWay
      rw [mask_odd R.tab.mok]
      decide
    refine wp_if_neg gw ?_
    try refine wpAny_bind (wpAny_pure ?_)
    generalize hr0 : runAt t.mask (SetTable.bits (thM P w k) % (t.mask + 1)) (SetTable.bits (thM P w k)) = r0 at hst
    have wy : ∀ q, way t.mask (thM P w k) q = (nth t.mask r0 q).j := fun q => by rw [← hr0]
    have sh : ∀ q, nth t.mask (nth t.mask r0 c) q = nth t.mask r0 (c + q) := fun q => (nth_add t.mask c _ q).symm
    have e1 : ∀ q, (nth t.mask (nth t.mask r0 c) q).j = way t.mask (thM P w k) (c + q) := fun q => by rw [sh, wy]
    have spec := go_spec t R.tab.ris R.tab.dm (fun i => (es[i]?.map (·.1)).getD 0) (thM P w k) (10 * SetTable.turns t.mask) (Z - c) (nth t.mask r0 c) (by rw [← hr0]; exact stepM t _ c) (by omega)
      (fun q hq => by rw [e1]; exact hZb (c + q) (by omega)) (by rw [e1, show c + (Z - c) = Z by omega]; exact hZ)
    rcases spec with ⟨q, i, hq, hi, _, _, hpr⟩ | ⟨_, hpr⟩
    · have hpr' : t.probe (fun i => (es[i]?.map (·.1)).getD 0) (thM P w k) (stand.getD (t.probeStart (thM P w k))) = some (.candidate (way t.mask (thM P w k) (c + q)) i (nth t.mask r0 (c + (q + 1)))) := by
        rw [hst, ← e1, ← sh]
        exact hpr
      rw [hpr']
      dsimp only
      rw [e1] at hi
      have hil : i < L.length := by
        have h1 := (List.getElem?_eq_some_iff.mp hi).1
        have h2 := R.tab.sz
        rw [List.length_map] at h2
        rw [Array.length_toList] at h1
        omega
      obtain ⟨p, hp⟩ : ∃ p, L[i]? = some p := ⟨L[i], List.getElem?_eq_getElem hil⟩
      have hpt := R.tup p (List.mem_of_getElem? hp)
      have go : wpAny (model P w) A (searchRest a (.ref x) (thM P w k) true f es t (way t.mask (thM P w k) (c + q)) i (nth t.mask r0 (c + (q + 1)))) Q E s := by
        unfold searchRest
        rw [rowM_at R.rows hp]
        dsimp only
        refine wpAny_bind (wpAny_holding (wpAny_eqBool_tuple hu hpt hx ?_))
        refine wpAny_bind (wpAny_setState_of ho hd R.fits ?_)
        dsimp only
        by_cases hkk : p.2 = k
        · exact wp_if_pos (by simp [hkk]) (wpAny_pure (hin ⟨p, List.mem_of_getElem? hp, hkk⟩))
        · refine wp_if_neg (by simp [hkk]) ?_
          try refine wpAny_bind (wpAny_pure ?_)
          rw [sameMem]
          dsimp only
          have hsl : t.slot (way t.mask (thM P w k) (c + q)) = .live i := slot_live R.tab.ris hi
          simp only [if_true, hsl, rowM_at R.rows hp]
          refine wpAny_bind (wpAny_isSame_ref_self (wpAny_bind (wpAny_pure ?_)))
          simp only [if_true]
          refine wp_if_neg (by simp [hkk]) ?_
          exact ih (c + (q + 1)) _ (by rw [hr0]; rfl) (by omega) (by omega)
      by_cases hl : t.led = true
      · refine wp_if_neg (by simp [hl]) ?_
        try refine wpAny_bind (wpAny_pure ?_)
        exact go
      · refine wp_if_pos (by simp [hl]) ?_
        refine wpAny_bind (seenM hx (fun y hy => ?_) ?_)
        · obtain ⟨e, he, ee⟩ := List.mem_map.mp hy
          have he1 : e ∈ es ∧ e.1 = thM P w k := by simpa using he
          have he2 : e ∈ es.toList := by simpa using he1.1
          rw [R.rows] at he2
          obtain ⟨p2, hp2, e2⟩ := List.mem_map.mp he2
          exact ⟨p2.2, p2.1, by rw [← ee, ← e2], R.tup p2 hp2⟩
        · refine wp_if_neg (by decide) ?_
          try refine wpAny_bind (wpAny_pure ?_)
          exact go
    · have hpr' : t.probe (fun i => (es[i]?.map (·.1)).getD 0) (thM P w k) (stand.getD (t.probeStart (thM P w k))) = some (.empty (way t.mask (thM P w k) Z) none) := by
        have e2 : way t.mask (thM P w k) Z = (nth t.mask (nth t.mask r0 c) (Z - c)).j := by rw [e1, show c + (Z - c) = Z by omega]
        rw [hst, e2]
        exact hpr
      rw [hpr']
      dsimp only
      exact wpAny_pure hout
theorem SetM.search (R : SetM P w s.heap a L es ep t) {x : Addr} {k : List Key} (hx : IsM P w s.heap k x) (hu : A.units < cLine) {Q : SetFound → Shared → Prop} (hin : (∃ p ∈ L, p.2 = k) → Q (.there none) s)
    (hout : ∀ Z, way t.mask (thM P w k) Z ∉ t.place.toList → (∀ c, c < Z → way t.mask (thM P w k) c ∈ t.place.toList) → Q (.free (way t.mask (thM P w k) Z) false) s) :
    wpAny (model P w) A (setSearch a (.ref x) (thM P w k) true) Q E s := by
  have hroom := R.room
  obtain ⟨Z, hZf, hZ, hZb⟩ := R.tab.first (by rw [List.length_map]; omega) (thM P w k)
  have small : 10 * SetTable.turns t.mask ≤ 1420 := by
    unfold SetTable.turns
    rcases R.tab.mok with e | e | e <;> omega
  unfold setSearch
  exact R.find hx hu hZf hZ hZb hin (hout Z hZ hZb) 100000 0 none rfl (Nat.zero_le _) (by omega)
end
end Fm
namespace Fm
open PySem PySem.Spec PyProof.Rows L2
section
variable {P : Program} {w : World} {A : Around} {E : Value → Shared → Prop} {s : Shared} {a : Addr} {L : TL} {es : Array (Int × Value)} {ep : Nat} {t : SetTable}
theorem isM_same {h h' : Heap} {k : List Key} {b : Addr} {o : Obj} (hb : IsM P w h k b) (ho : h.get? a = some o) (hd : o.data = .set es ep t) (sb : Heap.SameBut a h h') : IsM P w h' k b := by
  obtain ⟨o', items, n, ho', hc, hd', hi⟩ := hb
  refine ⟨o', items, n, (sb.2 b fun z => ?_).trans ho', hc, hd', hi⟩
  subst z
  rw [ho] at ho'
  cases ho'
  rw [hd] at hd'
  cases hd'
theorem isM_keep {h h' : Heap} {k : List Key} {b : Addr} (x : IsM P w h k b) (hk : ∀ c o, h.get? c = some o → h'.get? c = some o) : IsM P w h' k b := by
  obtain ⟨o, items, n, ho, r⟩ := x
  exact ⟨o, items, n, hk b o ho, r⟩
/-- rows taken in another order -/
theorem rowM_order (e : es.toList = rowM P w L) (order : List Nat) (hp : order.Perm (List.range L.length)) :
    ∃ L2, order.filterMap (fun i => es[i]?) = rowM P w L2 ∧ L2.Perm L ∧ (L2.map fun p => thM P w p.2) = order.map fun i => (es.map (·.1)).getD i 0 := by
  have one : ∀ l : List Nat, (∀ i ∈ l, i < L.length) → l.filterMap (fun i => es[i]?) = rowM P w (l.filterMap fun i => L[i]?) ∧ ((l.filterMap fun i => L[i]?).map fun p => thM P w p.2) = l.map fun i => (es.map (·.1)).getD i 0 := by
    intro l
    induction l with
    | nil => intro _; exact ⟨rfl, rfl⟩
    | cons i l ih =>
      intro hl
      have hi := hl i List.mem_cons_self
      have hL : L[i]? = some L[i] := List.getElem?_eq_getElem hi
      have hE := rowM_at e hL
      obtain ⟨e1, e2⟩ := ih fun j hj => hl j (List.mem_cons_of_mem _ hj)
      have hg : (es.map (·.1)).getD i 0 = thM P w (L[i]).2 := by
        have q : (es.map (·.1))[i]? = some (thM P w (L[i]).2) := by rw [Array.getElem?_map, hE]; rfl
        simp [Array.getD_eq_getD_getElem?, q]
      constructor
      · rw [List.filterMap_cons_some hE, List.filterMap_cons_some hL, e1]; rfl
      · rw [List.filterMap_cons_some hL, List.map_cons, List.map_cons, e2, hg]
  obtain ⟨e1, e2⟩ := one order fun i hi => List.mem_range.mp (hp.mem_iff.mp hi)
  refine ⟨_, e1, ?_, e2⟩
  have all : ∀ n, n ≤ L.length → (List.range n).filterMap (fun i => L[i]?) = L.take n := by
    intro n
    induction n with
    | zero => intro _; rfl
    | succ n ih =>
      intro hn
      rw [List.range_succ, List.filterMap_append, ih (by omega), List.take_add_one, List.getElem?_eq_getElem (show n < L.length by omega), List.filterMap_cons_some (List.getElem?_eq_getElem (show n < L.length by omega))]
      rfl
  have := hp.filterMap fun i => L[i]?
  rw [all L.length (Nat.le_refl _), List.take_length] at this
  exact this
/-- laid anew in a larger table -/
theorem relayM {o : Obj} (ho : s.heap.get? a = some o) (hex : o.ExactSet) (hd : o.data = .set es ep t) (hrows : es.toList = rowM P w L) (hsz : t.place.size = es.size) (hdm : t.dummies = #[]) (hfl : es.size ≤ t.mask)
    (tup : ∀ p ∈ L, IsM P w s.heap p.2 p.1) (ld : w.params.followText "set-order" = true ∨ t.led = true) (few : L.length < 64) {wanted M : Nat}
    (hw : SetTable.sizeAbove wanted - 1 = M) (hM : MaskOk M) (hw2 : SetTable.sizeAbove wanted ≤ 128) (hn : L.length * 5 < M * 3) {Q : Unit → Shared → Prop}
    (hQ : ∀ h' L' es' ep' t', Heap.SameBut a s.heap h' → SetM P w h' a L' es' ep' t' → L'.Perm L → Q () { s with heap := h' }) : wpAny (model P w) A (setRelay a wanted) Q E s := by
  have hsl := rowM_size hrows
  have hfits : t.fits es.size = true := by
    unfold SetTable.fits SetTable.fill
    rw [hdm, Bool.and_eq_true, beq_iff_eq, decide_eq_true_eq]
    show t.place.size = es.size ∧ t.place.size + 0 ≤ t.mask
    omega
  obtain ⟨t', order, e, hp, T, em, el, _, _⟩ := relaid_ok t (hs := es.map (·.1)) (wanted := wanted) hw hM (by rw [Array.size_map, hsl]; omega)
  rw [Array.size_map, hsl] at hp
  obtain ⟨L2, r1, r2, r3⟩ := rowM_order hrows order.toList hp
  rw [← r3] at T
  have r1' : (order.filterMap (es[·]?)).toList = rowM P w L2 := by first | (rw [Array.toList_filterMap]; exact r1) | simpa using r1
  have hs2 : (order.filterMap (es[·]?)).size = es.size := by rw [rowM_size r1', r2.length_eq, hsl]
  rw [setRelay_eq]
  refine wpAny_bind (wpAny_setState_of ho hd hfits ?_)
  dsimp only
  refine wp_if_neg (by rw [sizeLine_eq]; omega) ?_
  try refine wpAny_bind (wpAny_pure ?_)
  rw [e]
  dsimp only
  refine wpAny_bind ?_
  refine wp_if_neg (by rw [hs2]; simp) ?_
  try refine wpAny_bind (wpAny_pure ?_)
  refine wpAny_pure ?_
  dsimp only
  refine wpAny_storeSet_of ho hd ?_ (by rw [hs2, hsl, sizeLine_eq]; omega)
  have sb : Heap.SameBut a s.heap (s.heap.update a (Obj.putSet (order.filterMap (es[·]?)) t')) := Heap.SameBut.update ..
  exact hQ _ L2 _ (ep + 1) t' sb ⟨⟨_, store_at ho hd, ⟨hex.1, hex.2.1, hex.2.2⟩, rfl⟩, r1', T, fun p hpm => isM_same (tup p (r2.mem_iff.mp hpm)) ho hd sb, by rw [el]; exact ld, by rw [r2.length_eq, em]; exact hn, by rw [r2.length_eq]; exact few⟩ r2
/-- adding one -/
theorem SetM.add (R : SetM P w s.heap a L es ep t) {x : Addr} {k : List Key} (hx : IsM P w s.heap k x) (hu : A.units < cLine) (hfew : L.length + 1 < 64) {Q : Bool → Shared → Prop}
    (hQ : ∀ b h' L' es' ep' t', Heap.SameBut a s.heap h' → SetM P w h' a L' es' ep' t' → (∀ p ∈ L', p = (x, k) ∨ p ∈ L) → L'.length ≤ L.length + 1 → ((∀ p ∈ L, p ∈ L') ∧ ∃ p ∈ L', p.2 = k) → Q b { s with heap := h' }) :
    wpAny (model P w) A (setAddHashed a (.ref x) (thM P w k)) Q E s := by
  obtain ⟨o, ho, hex, hd⟩ := R.ob
  have hsl := rowM_size R.rows
  have hroom := R.room
  unfold setAddHashed
  refine wpAny_holding ?_
  rw [show (100000 : Nat) = 99999 + 1 from rfl, setAddHashedIn_succ]
  refine wpAny_bind (wpAny_setState_of ho hd R.fits ?_)
  dsimp only
  refine wp_if_neg (by simp [byScan, Value.scannable]) ?_
  try refine wpAny_bind (wpAny_pure ?_)
  refine wpAny_bind (R.search hx hu (fun hin => ?_) fun Z hZ hb => ?_)
  · dsimp only
    exact wpAny_pure (hQ false s.heap L es ep t (Heap.SameBut.refl a s.heap) R (fun p hp => .inr hp) (Nat.le_succ _) ⟨fun _ h => h, hin⟩)
  · dsimp only
    refine wpAny_bind (wpAny_setState_of ho hd R.fits ?_)
    dsimp only
    obtain ⟨q1, q2, q3, q4, q5, _, _, _, q9⟩ := R.tab.put hZ hb
    generalize t.put (way t.mask (thM P w k) Z) = pt at q1 q3 q4 q5 q9 ⊢
    obtain ⟨t1, p⟩ := pt
    dsimp only at q1 q3 q4 q5 q9 ⊢
    subst q1
    -- whichever the table's mark becomes
    have main : ∀ t2 : SetTable, TabOk t2 ((L.map fun p => thM P w p.2).take (SetTable.below t.place (way t.mask (thM P w k) Z)) ++ thM P w k :: (L.map fun p => thM P w p.2).drop (SetTable.below t.place (way t.mask (thM P w k) Z))) → t2.mask = t.mask → t2.led = t.led → t2.fill = L.length + 1 →
        wpAny (model P w) A (do
          storeSet a (SetTable.insertAt es (SetTable.below t.place (way t.mask (thM P w k) Z)) (thM P w k, Value.ref x)) t2
          if !false && t2.tooFull then setRelay a (SetTable.grown (es.size + 1))
          return true) Q E s := by
      intro t2 q3 q4 q5 q9
      have hin : (SetTable.insertAt es (SetTable.below t.place (way t.mask (thM P w k) Z)) (thM P w k, Value.ref x)).toList = rowM P w (L.take (SetTable.below t.place (way t.mask (thM P w k) Z)) ++ (x, k) :: L.drop (SetTable.below t.place (way t.mask (thM P w k) Z))) := by
        rw [SetTable.toList_insertAt, R.rows]
        unfold rowM
        rw [List.map_append, List.map_cons, List.map_take, List.map_drop]
      generalize SetTable.below t.place (way t.mask (thM P w k) Z) = p at q2 q3 hin ⊢
      have pm := put_perm L p (x, k)
      have hlen : (L.take p ++ (x, k) :: L.drop p).length = L.length + 1 := pm.length_eq
      have hhs : (L.take p ++ (x, k) :: L.drop p).map (fun p => thM P w p.2) = (L.map fun p => thM P w p.2).take p ++ thM P w k :: (L.map fun p => thM P w p.2).drop p := by
        rw [List.map_append, List.map_cons, List.map_take, List.map_drop]
      rw [← hhs] at q3
      have hes : (SetTable.insertAt es p (thM P w k, Value.ref x)).size = L.length + 1 := by rw [rowM_size hin, hlen]
      generalize SetTable.insertAt es p (thM P w k, Value.ref x) = es1 at hin hes ⊢
      generalize L.take p ++ (x, k) :: L.drop p = L1 at pm hlen q3 hin
      refine wpAny_bind (wpAny_storeSet_of ho hd ?_ (by rw [hes, sizeLine_eq]; omega))
      have sb : Heap.SameBut a s.heap (s.heap.update a (Obj.putSet es1 t2)) := Heap.SameBut.update ..
      have ho1 := store_at (es' := es1) (t' := t2) ho hd
      generalize s.heap.update a (Obj.putSet es1 t2) = h1 at sb ho1 ⊢
      have mem1 : ∀ p ∈ L1, p = (x, k) ∨ p ∈ L := fun p hp => List.mem_cons.mp (pm.mem_iff.mp hp)
      have cov1 : (∀ p ∈ L, p ∈ L1) ∧ ∃ p ∈ L1, p.2 = k := ⟨fun p hp => pm.mem_iff.mpr (List.mem_cons_of_mem _ hp), (x, k), pm.mem_iff.mpr List.mem_cons_self, rfl⟩
      have tup1 : ∀ p ∈ L1, IsM P w h1 p.2 p.1 := fun p hp => by
        rcases mem1 p hp with e | hp
        · rw [e]; exact isM_same hx ho hd sb
        · exact isM_same (R.tup p hp) ho hd sb
      have ld1 : w.params.followText "set-order" = true ∨ t2.led = true := by rw [q5]; exact R.led
      by_cases hf : t2.tooFull = true
      · first
          | (refine wpAny_bind ?_; refine wp_if_pos (by simp [hf]) ?_)
          | (refine wp_if_pos (by simp [hf]) ?_; refine wpAny_bind ?_)
        have hfull : (L.length + 1) * 5 ≥ t2.mask * 3 := by
          have h := hf
          unfold SetTable.tooFull at h
          rw [decide_eq_true_eq, q9] at h
          exact h
        rw [hsl]
        have hsz1 : t2.place.size = es1.size := by
          have h := q3.sz
          rw [List.length_map, hlen] at h
          rw [h, hes]
        have cases2 : (t.mask = 7 ∧ L.length = 4) ∨ (t.mask = 31 ∧ L.length = 18) := by
          rcases R.tab.mok with e | e | e
          · left; rw [q4, e] at hfull; rw [e] at hroom; exact ⟨e, by omega⟩
          · right; rw [q4, e] at hfull; rw [e] at hroom; exact ⟨e, by omega⟩
          · exfalso; rw [q4, e] at hfull; omega
        have go : ∀ M, SetTable.sizeAbove (SetTable.grown (L.length + 1)) - 1 = M → MaskOk M → SetTable.sizeAbove (SetTable.grown (L.length + 1)) ≤ 128 → (L.length + 1) * 5 < M * 3 →
            wpAny (model P w) A (setRelay a (SetTable.grown (L.length + 1))) (fun _ s' => wpAny (model P w) A (pure true) Q E s') E { s with heap := h1 } := fun M h1' h2' h3' h4' => by
          refine relayM (s := { s with heap := h1 }) ho1 ⟨hex.1, hex.2.1, hex.2.2⟩ rfl hin hsz1 q3.dm (by rw [hes, q4]; rcases cases2 with ⟨e, e2⟩ | ⟨e, e2⟩ <;> omega) tup1 ld1 (by rw [hlen]; exact hfew) h1' h2' h3' (by rw [hlen]; exact h4') ?_
          intro h2 L2 es2 ep2 t3 sb2 R2 pm2
          exact wpAny_pure (hQ true h2 L2 es2 ep2 t3 (sb.trans sb2) R2 (fun p hp => mem1 p (pm2.mem_iff.mp hp)) (by rw [pm2.length_eq, hlen]; exact Nat.le_refl _) ⟨fun p hp => pm2.mem_iff.mpr (cov1.1 p hp), cov1.2.elim fun p hp => ⟨p, pm2.mem_iff.mpr hp.1, hp.2⟩⟩)
        rcases cases2 with ⟨_, e2⟩ | ⟨_, e2⟩
        · exact go 31 (by rw [e2, size_20]) (.inr (.inl rfl)) (by rw [e2, size_20]; decide) (by omega)
        · exact go 127 (by rw [e2, size_76]) (.inr (.inr rfl)) (by rw [e2, size_76]; decide) (by omega)
      · first
          | refine wp_if_neg (by simp [hf]) ?_
          | (refine wpAny_bind ?_; refine wp_if_neg (by simp [hf]) ?_; refine wpAny_pure ?_)
        refine wpAny_pure (hQ true h1 L1 es1 (ep + 1) t2 sb ⟨⟨_, ho1, ⟨hex.1, hex.2.1, hex.2.2⟩, rfl⟩, hin, q3, tup1, ld1, ?_, by rw [hlen]; exact hfew⟩ mem1 (by rw [hlen]; exact Nat.le_refl _) cov1)
        have h := hf
        unfold SetTable.tooFull at h
        rw [decide_eq_true_eq, q9] at h
        rw [hlen]
        omega
    rw [List.length_map] at q9
    by_cases hp1 : t1.plain = true
    · first
        | (refine wpAny_bind ?_; refine wp_if_pos hp1 ?_; refine hashM hx fun c => ?_)
        | refine wp_if_pos hp1 (wpAny_bind (hashM hx fun c => ?_))
      cases c with
      | true =>
        simp only [if_true]
        exact main t1 q3 q4 q5 q9
      | false =>
        simp only [Bool.false_eq_true, if_false]
        exact main { t1 with plain := false } ⟨q3.ris, q3.dm, q3.sz, q3.mok, q3.bd, q3.reach⟩ q4 q5 q9
    · first
        | (refine wpAny_bind ?_; refine wp_if_neg hp1 ?_; refine wpAny_pure ?_)
        | refine wp_if_neg hp1 (wpAny_bind (wpAny_pure ?_))
      simp only [if_true]
      exact main t1 q3 q4 q5 q9
end
end Fm
namespace Fm
open PySem PySem.Spec PyProof.Rows L2
theorem perm_lift {α β : Type} (f : α → β) {out m : List β} (h : out.Perm m) : ∀ l : List α, m = l.map f → ∃ l' : List α, out = l'.map f ∧ l'.Perm l := by
  induction h with
  | nil =>
    intro l e
    cases l with
    | nil => exact ⟨[], rfl, .nil⟩
    | cons a l => cases e
  | cons x _ ih =>
    intro l e
    cases l with
    | nil => cases e
    | cons a l =>
      injection e with e1 e2
      obtain ⟨l', h1, h2⟩ := ih l e2
      exact ⟨a :: l', by rw [h1, e1]; rfl, h2.cons a⟩
  | swap x y t =>
    intro l e
    cases l with
    | nil => cases e
    | cons a l =>
      cases l with
      | nil => cases e
      | cons b l =>
        injection e with e1 e2
        injection e2 with e2 e3
        exact ⟨b :: a :: l, by rw [e1, e2, e3]; rfl, .swap a b l⟩
  | trans _ _ ih1 ih2 =>
    intro l e
    obtain ⟨l1, h1, h2⟩ := ih2 l e
    obtain ⟨l2, h3, h4⟩ := ih1 l1 h1
    exact ⟨l2, h3, h4.trans h2⟩
/-- what stands at each place, an int or a text -/
abbrev shOf (k : List Key) : List Bool := k.map Sum.isRight
theorem itemsSh {P : Program} {w : World} (sh : Nat → Bool) : ∀ (k : List Key) (vs : List Value) (i : Nat), ItemsAre (mixKind P w) k vs → (∀ j b, (shOf k)[j]? = some b → sh (i + j) = b) → ∃ l, tupItems sh i vs = some l
  | [], _, i, .nil, _ => ⟨[], rfl⟩
  | c :: k, v :: vs, i, .cons h t, hs => by
    obtain ⟨l, hl⟩ := itemsSh sh k vs (i + 1) t fun j b e => by
      have := hs (j + 1) b e
      rwa [show i + (j + 1) = i + 1 + j by omega] at this
    have h0 := hs 0 _ rfl
    rcases keyIs_shape h with ⟨n, tk, rfl, rfl⟩ | ⟨x, tk, rfl, rfl⟩
    · refine ⟨Sum.inl n :: l, ?_⟩
      show (if sh i = true then none else (tupItems sh (i + 1) vs).map (Sum.inl n :: ·)) = some _
      rw [if_neg (by rw [show sh i = false from h0]; exact Bool.false_ne_true), hl]
      rfl
    · refine ⟨Sum.inr x.cps.toList :: l, ?_⟩
      show (if sh i = true then (tupItems sh (i + 1) vs).map (Sum.inr x.cps.toList :: ·) else none) = some _
      rw [if_pos (show sh i = true from h0), hl]
      rfl
theorem tupC_of {P : Program} {w : World} {h : Heap} {sh : List Bool} {k : List Key} {b : Addr} (x : IsM P w h k b) (hs : shOf k = sh) : ∃ l, G.tupKeyC h (fun i => sh.getD i false) (.ref b) = some l := by
  obtain ⟨o, items, n, ho, hc, hd, hi⟩ := x
  obtain ⟨l, hl⟩ := itemsSh (fun i => sh.getD i false) k items.toList 0 hi fun j c e => by
    rw [hs] at e
    rw [Nat.zero_add]
    show sh.getD j false = c
    rw [List.getD_eq_getElem?_getD, e]; rfl
  refine ⟨l, ?_⟩
  unfold G.tupKeyC
  have e1 : G.isTupObj h (.ref b) = true := by
    show (match h.get? b with | some o => (match o.cls with | .type n => n == "tuple" | _ => false) | none => false) = true
    rw [ho]
    show (match o.cls with | .type n => n == "tuple" | _ => false) = true
    rw [hc]; decide
  rw [if_pos e1]
  show (match h.get? b with | some o => (match o.data with | .seq xs _ => tupItems (fun i => sh.getD i false) 0 xs.toList | _ => none) | none => none) = some l
  rw [ho]
  show (match o.data with | .seq xs _ => tupItems (fun i => sh.getD i false) 0 xs.toList | _ => none) = some l
  rw [hd]
  exact hl
theorem tupsOf_of {P : Program} {w : World} {h : Heap} {sh : List Bool} (hne : sh ≠ []) : ∀ (ps : TL), (∀ p ∈ ps, IsM P w h p.2 p.1 ∧ shOf p.2 = sh) → ∃ fs, TupsOf h (fun i => sh.getD i false) (ps.map fun p => Value.ref p.1) fs
  | [], _ => ⟨[], .nil⟩
  | p :: ps, hp => by
    obtain ⟨fs, hf⟩ := tupsOf_of hne ps fun q hq => hp q (List.mem_cons_of_mem _ hq)
    obtain ⟨⟨o, items, n, ho, hc, hd, hi⟩, hs⟩ := hp p List.mem_cons_self
    cases hk : p.2 with
    | nil => rw [hk] at hs; exact absurd hs.symm hne
    | cons c k =>
      rw [hk] at hi hs
      cases hit : items.toList with
      | nil => rw [hit] at hi; cases hi
      | cons f vs =>
        rw [hit] at hi
        have h0 : sh.getD 0 false = c.isRight := by rw [← hs]; rfl
        refine ⟨f :: fs, .cons ⟨p.1, o, items, n, rfl, ho, hc, hd, ?_, fun z => ?_, fun z => ?_⟩ hf⟩
        · rw [← Array.getElem?_toList, hit]; rfl
        · cases hi with
          | cons h1 _ =>
            rcases keyIs_shape h1 with ⟨i, t, rfl, rfl⟩ | ⟨x, t, rfl, rfl⟩
            · exact ⟨i, t, rfl⟩
            · have z' := h0.symm.trans z; cases z'
        · cases hi with
          | cons h1 _ =>
            rcases keyIs_shape h1 with ⟨i, t, rfl, rfl⟩ | ⟨x, t, rfl, rfl⟩
            · have z' := h0.symm.trans z; cases z'
            · exact ⟨x, t, rfl⟩
section
variable {X : Cx} {K : PySem.W.Frag} {w : World} {P : Program}
theorem Inv.isM {pins : List (Addr × Obj)} {σ : L2.St} {H : Hp} {s : Shared} {b : Addr} {k : List Key} (I : Inv X pins σ H s) (h : SqT X.K H b (k.map kV)) : IsM X.prog X.w s.heap k b := by
  obtain ⟨its, r, ⟨o, ho, hc, n, hd⟩, _⟩ := I.tuple h
  exact ⟨o, its.toArray, n, ho, hc, hd, by simpa using items_are r⟩
theorem refs_are : ∀ {ps : TL} {us : List Value}, Vals (ps.map fun p => V.ref p.1) us → us = ps.map fun p => Value.ref p.1
  | [], _, .nil => rfl
  | p :: ps, _, .cons r t => by
    cases r
    rw [refs_are t]; rfl
theorem vals_refs : ∀ ps : TL, Vals (ps.map fun p => V.ref p.1) (ps.map fun p => Value.ref p.1)
  | [] => .nil
  | p :: ps => .cons rfl (vals_refs ps)
/-- sorted(xs), xs a list of tuples of ints and texts, all of one form -/
def rSortTL (K : PySem.W.Frag) : List V → Hp → VK → Prop := fun xs H Q => ∃ (l : Addr) (ps : TL) (sh : List Bool), xs = [V.ref l] ∧ SqL K H l (ps.map fun p => V.ref p.1) ∧ (∀ p ∈ ps, SqT K H p.1 (p.2.map kV) ∧ shOf p.2 = sh) ∧ sh ≠ [] ∧
  ∀ (ps' : TL) (p : Addr), ps'.Perm ps → H p = none → Q (.ref p) (upd H p (.lst (ps'.map fun q => V.ref q.1)))
theorem pairs_perm {vs : List Value} {st' : Array Keyed} (h : st'.Perm (pairsOf vs)) : (st'.map (·.2)).toList.Perm vs := by
  have h1 : st'.toList.Perm (pairsOf vs).toList := h.toList
  rw [pairsOf_toList] at h1
  have h2 := h1.map Prod.snd
  rw [List.map_snd_zip (Nat.le_refl _)] at h2
  rw [Array.toList_map]
  exact h2
theorem kc_sortedTL (h : X.K = K) : CallR X (.builtin "sorted") (rSortTL K) := by
  subst h
  intro pins s σ H xs us Q I r h
  obtain ⟨l, ps, sh, rfl, hl, hp, hne, q⟩ := h
  rw [Vals.ref1 r]
  obtain ⟨its, rv, pl, hz⟩ := I.list hl
  have e := refs_are rv
  have hm : ∀ p ∈ ps, IsM X.prog X.w s.heap p.2 p.1 ∧ shOf p.2 = sh := fun p hpm => ⟨Inv.isM I (hp p hpm).1, (hp p hpm).2⟩
  obtain ⟨fs, hf⟩ := tupsOf_of hne ps hm
  subst e
  refine G.sorted_tups pl.isList hf (fun v hv => ?_) (by rw [List.length_map]; rw [List.length_map] at hz; exact hz) fun st' h1 _ _ => ?_
  · obtain ⟨p, hpm, rfl⟩ := List.mem_map.mp hv
    exact tupC_of (hm p hpm).1 (hm p hpm).2
  · have pm := pairs_perm h1
    generalize (arrOf st').map (·.2) = out at pm
    obtain ⟨ps', e', pm'⟩ := perm_lift (fun p : Addr × List Key => Value.ref p.1) pm ps rfl
    obtain ⟨ep, he'⟩ := PyProof.Rows.sortedAll_at s.heap (ps.map fun p => Value.ref p.1) out
    have hlen : (ps'.map fun q => V.ref q.1).length ≤ sizeLine := by rw [List.length_map, pm'.length_eq]; rw [List.length_map] at hz; exact hz
    exact ⟨.ref _, upd H (s.heap.objs.size + 1) (.lst (ps'.map fun q => V.ref q.1)), I.laid (t' := s.toks) (fun _ _ => PyProof.Rows.sortedAll_old) (Nat.le_succ _) ⟨hlen, out.toList, ep, by rw [e']; exact vals_refs ps', he'⟩, rfl, q ps' _ pm' (I.hok.fresh (Nat.le_succ _))⟩
end
end Fm
namespace Fm
open PySem PySem.Spec PyProof.Rows L2
section
variable {P : Program} {w : World} {A : Around} {E : Value → Shared → Prop} {s : Shared}
theorem setM_bare {h : Heap} {a : Addr} (e : h.get? a = some (bareSet w)) : SetM P w h a [] #[] 0 (.fresh 0 0 (!w.params.followText "set-order")) where
  ob := ⟨_, e, ⟨rfl, rfl, rfl⟩, rfl⟩
  rows := rfl
  tab := ⟨List.Pairwise.nil, rfl, rfl, .inl rfl, fun x hx => (by cases hx), fun i h j hi => (by simp at hi)⟩
  tup := fun p hp => (by cases hp)
  led := by
    show _ ∨ (!w.params.followText "set-order") = true
    cases w.params.followText "set-order"
    · exact .inr rfl
    · exact .inl rfl
  room := by
    show 0 * 5 < 7 * 3
    decide
  few := by decide
theorem SetM.keep {h h' : Heap} {a : Addr} {L : TL} {es : Array (Int × Value)} {ep : Nat} {t : SetTable} (R : SetM P w h a L es ep t) (ha : ∀ o, h.get? a = some o → h'.get? a = some o) (ht : ∀ p ∈ L, IsM P w h' p.2 p.1) : SetM P w h' a L es ep t := by
  obtain ⟨o, ho, r⟩ := R.ob
  exact ⟨⟨o, ha o ho, r⟩, R.rows, R.tab, ht, R.led, R.room, R.few⟩
def GotM (P : Program) (w : World) (S : Addr) (ks : TL) (i : Nat) (h : Heap) : Prop := ∃ L es ep t, SetM P w h S L es ep t ∧ (∀ p ∈ L, p ∈ ks) ∧ L.length ≤ i ∧ ∀ p ∈ ks.take i, ∃ q ∈ L, q.2 = p.2
theorem adds_tups {S : Addr} {h0 : Heap} {items : Array Value} {ks : TL} (hit : ∀ (i : Nat) (v : Value), items[i]? = some v → ∃ p, ks[i]? = some p ∧ v = Value.ref p.1) (hk : ∀ p ∈ ks, IsM P w h0 p.2 p.1) (hfew : items.size < 64) (hu : A.units < cLine) :
    Adds P w A S h0 items.size (fun i v => items[i]? = some v) (GotM P w S ks) where
  still := fun ⟨L, es, ep, t, R, sub, len, cov⟩ ha kp => ⟨L, es, ep, t, R.keep ha fun p hp => isM_keep (hk p (sub p hp)) kp, sub, len, cov⟩
  add := by
    intro i v s E Q hi hv hI kp hQ
    obtain ⟨L, es, ep, t, R, sub, len, cov⟩ := hI
    obtain ⟨p, hpi, rfl⟩ := hit i v hv
    have hp := List.mem_of_getElem? hpi
    have hx : IsM P w s.heap p.2 p.1 := isM_keep (hk p hp) kp
    unfold setAdd
    refine wpAny_holding ?_
    refine wpAny_bind (wpAny_pyHash_tuple hu hx ?_)
    refine SetM.add (s := { s with toks := s.toks + (p.2.length + 1) }) R hx hu (by omega) fun b h' L' es' ep' t' sb R' mem len' cov' => ?_
    refine hQ b h' _ sb ⟨L', es', ep', t', R', fun q hq => ?_, by omega, fun q hq => ?_⟩ (Nat.le_add_right _ _)
    · rcases mem q hq with e | hq
      · rw [e]; exact hp
      · exact sub q hq
    · rw [List.take_add_one, hpi, List.mem_append] at hq
      rcases hq with hq | hq
      · obtain ⟨q', h1, h2⟩ := cov q hq
        exact ⟨q', cov'.1 q' h1, h2⟩
      · obtain ⟨q', h1, h2⟩ := cov'.2
        exact ⟨q', h1, by rw [List.mem_singleton.mp hq]; exact h2⟩
/-- the set at a, without the tuples themselves -/
def SetM0 (P : Program) (w : World) (h : Heap) (a : Addr) (L : TL) : Prop := ∃ (es : Array (Int × Value)) (ep : Nat) (t : SetTable), (∃ o, h.get? a = some o ∧ o.ExactSet ∧ o.data = .set es ep t) ∧ es.toList = rowM P w L ∧ TabOk t (L.map fun p => thM P w p.2) ∧
    (w.params.followText "set-order" = true ∨ t.led = true) ∧ L.length * 5 < t.mask * 3 ∧ L.length < 64
def SetMO (P : Program) (w : World) (a : Addr) (L : TL) : HO := .ext fun h => SetM0 P w h a L
theorem setMO_new {H : Hp} {h : Heap} {a : Addr} {L : TL} (R : SetM0 P w h a L) : ObjOk P w H h a (SetMO P w a L) := by
  have ⟨es, ep, t, ⟨o, ho, r⟩, q⟩ := R
  refine ⟨R, ⟨o, ho⟩, fun h1 h2 p k => ?_⟩
  obtain ⟨es', ep', t', ⟨o', ho', r'⟩, q'⟩ := p
  exact ⟨es', ep', t', ⟨o', k o' ho', r'⟩, q'⟩
/-- sorted(set) -/
theorem sorted_setM {a : Addr} {L : TL} {es : Array (Int × Value)} {ep : Nat} {t : SetTable} {sh : List Bool} {Q : Value → Shared → Prop} (R : SetM P w s.heap a L es ep t) (hh : A.handled = none) (hne : sh ≠ []) (hs : ∀ p ∈ L, shOf p.2 = sh)
    (hQ : ∀ s' p (out : Array Value) (c : Nat) (L' : TL), (∀ b o, s.heap.get? b = some o → s'.heap.get? b = some o) → s'.gens = s.gens → s'.os = s.os → s.heap.objs.size ≤ p →
      s'.heap.get? p = some (seqObj "list" out c) → out.toList = L'.map (fun q => Value.ref q.1) → L'.Perm L → Q (.ref p) s') :
    wpAny (model P w) A (call (.builtin "sorted") [.ref a]) Q E s := by
  obtain ⟨o, ho, hex, hd⟩ := R.ob
  have hsz := rowM_size R.rows
  have hfew := R.few
  refine Calls.call_function_entry kind_sorted plain_sorted entry_sorted (args_sorted1 _) ?_
  unfold Builtin.«sorted»
  refine wpAny_bind (m := checkCount "sorted" 1 1 _) (wpAny_pure ?_)
  refine wpAny_bind (collect_set (A := A.in1) hh ⟨o, ho, hex.1, hd⟩ R.fits (by unfold scanBound; omega) R.tab.ris R.led fun s1 vs k1 hz g1 o1 pm => ?_)
  have hes : es.toList.map (·.2) = L.map fun q => Value.ref q.1 := by
    rw [R.rows]
    unfold rowM
    rw [List.map_map]; rfl
  rw [hes] at pm
  obtain ⟨L1, e1, pm1⟩ := perm_lift (fun q : Addr × List Key => Value.ref q.1) pm L rfl
  subst e1
  have hvl : L1.length < 64 := by rw [pm1.length_eq]; exact hfew
  refine wpAny_bind (wpAny_newList ?_ (by rw [List.length_map, sizeLine_eq]; omega))
  have hoL : (s1.heap.push (seqObj "list" (L1.map fun q => Value.ref q.1).toArray 0)).get? s1.heap.objs.size = some (seqObj "list" (L1.map fun q => Value.ref q.1).toArray 0) := Heap.get?_push_size _ rfl
  have hm : ∀ p ∈ L1, IsM P w (s1.heap.push (seqObj "list" (L1.map fun q => Value.ref q.1).toArray 0)) p.2 p.1 ∧ shOf p.2 = sh := fun p hp => by
    have hpL := pm1.mem_iff.mp hp
    exact ⟨isM_keep (R.tup p hpL) fun b u e => Heap.get?_push_of_some _ (k1 b u e), hs p hpL⟩
  obtain ⟨fs, hf⟩ := tupsOf_of hne L1 hm
  refine wpAny_bind (wpAny_holding (wpAny_call_entry slot_list_sort ⟨_, hoL, rfl⟩ entry_list_sort
    (G.list_sort_tups (s := { s1 with heap := s1.heap.push (seqObj "list" (L1.map fun q => Value.ref q.1).toArray 0) }) hoL hf (fun v hv => ?_) (by rw [List.length_map, sizeLine_eq]; omega) fun st' h1 _ _ => ⟨_, rfl, ?_⟩) (args_list_sort _)))
  · obtain ⟨p, hpm, rfl⟩ := List.mem_map.mp hv
    exact tupC_of (hm p hpm).1 (hm p hpm).2
  · have pmo := pairs_perm h1
    generalize (arrOf st').map (·.2) = out at pmo
    obtain ⟨L', e', pm'⟩ := perm_lift (fun p : Addr × List Key => Value.ref p.1) pmo L1 rfl
    obtain ⟨c, hc⟩ := sortedHeap_at (vs := L1.map fun q => Value.ref q.1) (out := out) hoL
    refine wpAny_pure ⟨_, rfl, hQ _ s1.heap.objs.size out c L' (fun b u e => ?_) g1 o1 hz hc e' (pm'.trans pm1)⟩
    have q := k1 b u e
    have hlt := Heap.lt_size q
    show (sortedHeap (s1.heap.push (seqObj "list" (L1.map fun q => Value.ref q.1).toArray 0)) s1.heap.objs.size (L1.map fun q => Value.ref q.1) out).get? b = some u
    rw [sortedHeap_old (Nat.ne_of_lt hlt) (by rw [size_push']; exact Nat.lt_succ_of_lt hlt)]
    exact Heap.get?_push_of_some _ q
end
section
variable {X : Cx} {K : PySem.W.Frag} {w : World} {P : Program}
/-- set(xs), xs a list of tuples of ints and texts -/
def rSetT (K : PySem.W.Frag) (P : Program) (w : World) : List V → Hp → VK → Prop := fun xs H Q => ∃ (l : Addr) (ks : TL), xs = [V.ref l] ∧ SqL K H l (ks.map fun p => V.ref p.1) ∧ (∀ p ∈ ks, SqT K H p.1 (p.2.map kV)) ∧ ks.length < 64 ∧
  ∀ a L, H a = none → (∀ p ∈ L, p ∈ ks) → L.length ≤ ks.length → (∀ p ∈ ks, ∃ q ∈ L, q.2 = p.2) → Q (.ref a) (upd H a (SetMO P w a L))
theorem kc_setT (h : X.K = K) (hP : X.prog = P) (hw : X.w = w) (hc : X.calm = true) (hu : X.A.units + 64 < cLine) : CallR X (.type "set") (rSetT K P w) := by
  subst h hP hw
  intro pins s σ H xs us Q I r h
  obtain ⟨l, ks, rfl, hl, hk, hf, q⟩ := h
  rw [Vals.ref1 r]
  obtain ⟨its, rv, pl, hz⟩ := I.list hl
  have e := refs_are rv
  subst e
  have hsz : ((ks.map fun p => Value.ref p.1).toArray).size = ks.length := by rw [List.size_toArray, List.length_map]
  have hn : H s.heap.objs.size = none := I.hok.fresh (Nat.le_refl _)
  refine call_set_gen (w := X.w) (Iv := GotM X.prog X.w s.heap.objs.size ks) (I.ok.hd hc) pl.isList (fun A' hA _ => adds_tups (fun i v e => ?_) (fun p hp => Inv.isM I (hk p hp)) (by omega) (by omega)) (fun h e _ => ⟨[], _, _, _, setM_bare e, fun p hp => (nomatch hp), Nat.le_refl _, fun p hp => (nomatch hp)⟩) fun h' tk ⟨L, es, ep, t, R, sub, len, cov⟩ kp => ?_
  · rw [List.getElem?_toArray, List.getElem?_map] at e
    cases hq : ks[i]? with
    | none => rw [hq] at e; cases e
    | some p =>
      rw [hq] at e
      exact ⟨p, rfl, (Option.some.inj e).symm⟩
  · exact ⟨.ref s.heap.objs.size, _, I.laid (t' := tk) kp (Nat.le_refl _) (setMO_new ⟨es, ep, t, R.ob, R.rows, R.tab, R.led, R.room, R.few⟩), rfl, q _ L hn sub (by omega) (fun p hp => cov p (by rw [hsz, List.take_length]; exact hp))⟩
/-- sorted(set) -/
def rSortedSetT (K : PySem.W.Frag) (P : Program) (w : World) : List V → Hp → VK → Prop := fun vs H Q => ∃ (a : Addr) (L : TL) (sh : List Bool), vs = [V.ref a] ∧ H a = some (SetMO P w a L) ∧ (∀ p ∈ L, SqT K H p.1 (p.2.map kV) ∧ shOf p.2 = sh) ∧ sh ≠ [] ∧
  ∀ (L' : TL) (p : Addr), L'.Perm L → H p = none → Q (.ref p) (upd H p (.lst (L'.map fun q => V.ref q.1)))
theorem kc_sortedSetT (h : X.K = K) (hP : X.prog = P) (hw : X.w = w) (hc : X.calm = true) : CallR X (.builtin "sorted") (rSortedSetT K P w) := by
  subst h hP hw
  intro pins s σ H vs us Q I r h
  obtain ⟨a, L, sh, rfl, ha, hk, hne, q⟩ := h
  have R0 : SetM0 X.prog X.w s.heap a L := (I.hok a _ ha).1
  obtain ⟨es, ep, t, r1, r2, r3, r4, r5, r6⟩ := R0
  have R : SetM X.prog X.w s.heap a L es ep t := ⟨r1, r2, r3, fun p hp => Inv.isM I (hk p hp).1, r4, r5, r6⟩
  rw [Vals.ref1 r]
  refine sorted_setM R (I.ok.hd hc) hne (fun p hp => (hk p hp).2) fun s' p out c L' k g o hp hg hout pm => ?_
  have hlen : (L'.map fun q => V.ref q.1).length ≤ sizeLine := by rw [List.length_map, sizeLine_eq, pm.length_eq]; omega
  have hn : H p = none := I.hok.fresh hp
  have hv : Vals (L'.map fun q => V.ref q.1) out.toList := by rw [hout]; exact vals_refs L'
  have J : Inv X pins σ (upd H p (.lst (L'.map fun q => V.ref q.1))) { s with heap := s'.heap, gens := s'.gens, drawn := s'.drawn, toks := s'.toks } :=
    I.call (ch := []) (Un.laid k hp hn) (I.hok.laid k hp ⟨hlen, out.toList, c, hv, hg⟩) (by rw [g]; exact I.bare) (fun _ z => nomatch z)
  have e : s' = { s with heap := s'.heap, gens := s'.gens, drawn := s'.drawn, toks := s'.toks } := by
    cases s'
    cases s
    cases o
    rfl
  rw [e]
  exact ⟨.ref p, _, J, rfl, q L' p pm hn⟩
end
end Fm
namespace Fm
open PySem PySem.Spec PyProof.Rows L2
section
variable {X : Cx}
/-- list(text): its letters -/
def rLstS : List V → Hp → VK → Prop := fun xs H Q => ∃ l : List Nat, xs = [V.str ⟨l.toArray⟩] ∧ l.length ≤ 1000 ∧ ∀ p, H p = none → Q (.ref p) (upd H p (.lst (l.map fun c => V.str ⟨#[c]⟩)))
theorem kc_listS (hc : X.calm = true) : CallR X (.type "list") rLstS := by
  intro pins s σ H xs us Q I r h
  obtain ⟨l, rfl, hl, q⟩ := h
  obtain ⟨u, rfl, t, rfl⟩ := vals1 r
  refine call_list_str (I.ok.hd hc) _ t (fun h' tk acc' c' kp hg hacc => ?_) (by rw [List.size_toArray, sizeLine_eq]; omega)
  have hlen : (l.map fun c => V.str ⟨#[c]⟩).length ≤ sizeLine := by rw [List.length_map, sizeLine_eq]; omega
  have hv : Vals (l.map fun c => V.str ⟨#[c]⟩) acc'.toList := by
    have h1 := hacc.1
    rw [List.size_toArray] at h1
    have h2 : ∀ (j : Nat) (v : Value), acc'.toList[j]? = some v → ∃ c t, l[j]? = some c ∧ v = .str ⟨#[c]⟩ t := fun j v e => by
      obtain ⟨c, t, e1, e2⟩ := hacc.2 j v (by rw [← Array.getElem?_toList]; exact e)
      have e1' : l.toArray[j]? = some c := e1
      rw [List.getElem?_toArray] at e1'
      exact ⟨c, t, e1', e2⟩
    have h3 : acc'.toList.length = l.length := by rw [Array.length_toList]; exact h1
    clear hacc h1 hg hlen hl r q
    generalize acc'.toList = us at h2 h3
    induction l generalizing us with
    | nil =>
      cases us with
      | nil => exact .nil
      | cons u us => cases h3
    | cons c l ih =>
      cases us with
      | nil => cases h3
      | cons u us =>
        obtain ⟨c', t, e1, e2⟩ := h2 0 u rfl
        cases e1
        exact .cons ⟨t, e2⟩ (ih us (fun j v e => h2 (j + 1) v e) (by simpa using h3))
  exact ⟨.ref s.heap.objs.size, _, I.laid (t' := tk) kp (Nat.le_refl _) (show ObjOk X.prog X.w _ h' _ (.lst _) from ⟨hlen, acc'.toList, c', hv, by rw [Array.toArray_toList]; exact hg⟩), rfl, q _ (I.hok.fresh (Nat.le_refl _))⟩
end
end Fm
/-! the law's draws -/
namespace Fm
open PySem L2
theorem Fx.mu {M : List Addr} {H H' : Hp} {q : Addr} {o : HO} (e : Fx M H H') (hq : H q = none) : Fx M H (upd H' q o) :=
  ⟨fun a o' n h => by rw [upd_ne (ne_of_none h hq)]; exact e.keep a o' n h, fun a xs h => by rw [upd_ne (ne_of_none h hq)]; exact e.tups a xs h⟩
theorem Fx.fr {M : List Addr} {H H' : Hp} {q : Addr} (e : Fx M H H') (n : q ∉ M) (h : H' q = none) : H q = none := by
  cases z : H q with
  | none => rfl
  | some o => rw [e.keep q o n z] at h; cases h
/-- the pool at p, its great numbers at g -/
def Pl (H : Hp) (p g : Addr) : Prop := ∃ (s : Int) (gs : List Int), H p = some (.lst [.int s, .ref g]) ∧ H g = some (.lst (gs.map V.int)) ∧ gs.length ≤ 64
theorem Pl.ne {H : Hp} {p g : Addr} (P : Pl H p g) : p ≠ g := by
  obtain ⟨s, gs, h1, h2, _⟩ := P
  intro e
  rw [e, h2] at h1
  have h := HO.lst.inj (Option.some.inj h1)
  cases gs with
  | nil => cases h
  | cons x gs =>
    cases gs with
    | nil => cases h
    | cons y gs =>
      rw [List.map_cons, List.map_cons] at h
      injection h with _ h
      injection h with h _
      cases h
theorem Pl.nw {H : Hp} {p g q : Addr} (P : Pl H p g) (h : H q = none) : q ∉ [p, g] := by
  obtain ⟨s, gs, h1, h2, _⟩ := P
  intro z
  rcases List.mem_cons.mp z with rfl | z
  · rw [h] at h1; cases h1
  · rw [List.mem_singleton.mp z, h2] at h; cases h
theorem Pl.keep {H H' : Hp} {p g : Addr} (P : Pl H p g) (f : Fe H H') : Pl H' p g := by
  obtain ⟨s, gs, h1, h2, h3⟩ := P
  exact ⟨s, gs, f.k h1, f.k h2, h3⟩
theorem Pl.put {H : Hp} {p g q : Addr} {o : HO} (P : Pl H p g) (n : q ∉ [p, g]) : Pl (upd H q o) p g := by
  obtain ⟨s, gs, h1, h2, h3⟩ := P
  exact ⟨s, gs, by rw [upd_ne (fun e => n (by rw [← e]; exact List.mem_cons_self))]; exact h1, by rw [upd_ne (fun e => n (by rw [← e]; exact List.mem_cons_of_mem _ List.mem_cons_self))]; exact h2, h3⟩
def spPool (K : PySem.W.Frag) : Sp := fun vs H Q _ => ∃ (a : Addr) (ns : List Int), vs = [.ref a] ∧ SqL K H a (ns.map V.int) ∧ ns.length ≤ 63 ∧ ∀ (p g : Addr) (H' : Hp), Fe H H' → H p = none → H g = none → Pl H' p g → Q (.ref p) H'
def spDraw : Sp := fun vs H Q _ => ∃ (p g : Addr) (n : Nat), vs = [.ref p, .int (n : Int)] ∧ Pl H p g ∧ 0 < n ∧ n < 1000000 ∧ ∀ (r : Nat) (H' : Hp), Fx [p, g] H H' → Pl H' p g → r < n → Q (.int (r : Int)) H'
theorem cpow60 : CPow 10 60 := ⟨by decide, by decide, by decide +kernel⟩
theorem cpow18 : CPow 10 18 := ⟨by decide, by decide, by decide +kernel⟩
theorem mod_nat (i : Int) {n : Nat} (h : 0 < n) : ∃ r : Nat, i % (n : Int) = (r : Int) ∧ r < n := by
  have h1 := Int.emod_nonneg i (show (n : Int) ≠ 0 by omega)
  have h2 := Int.emod_lt_of_pos i (show (0 : Int) < n by omega)
  exact ⟨(i % (n : Int)).toNat, by omega, by omega⟩
section
variable {P : Program} {w : World} {K : PySem.W.Frag} {g : Str → Option Value} {base : Heap}
theorem ok_law_pool (T : Txt K g) : FnOk P w K g base CX0 1 T.d_law_pool.f T.d_law_pool.fd P_law_pool (spPool K) := by
  refine T.d_law_pool.F.ok sc_law_pool (fun vs H Q E h => ?_) (fun cdv A outer s H vs Q E hr h => ?_)
  · obtain ⟨_, _, rfl, _⟩ := h
    rfl
  · obtain ⟨a, ns, rfl, hs, hlen, kk⟩ := h
    have hu := hu_of hr
    refine ⟨_, (pss_cons (ps_set (i := 1) sc_law_pool.nd rfl (by first | exact Or.inl rfl | exact Or.inr rfl) (pe_op op_mulW (pe_op op_mulW (pe_op op_mulW (pe_op op_mulW (pe_op op_mulW (pe_op op_pow pe_int pe_int) (pe_op op_pow pe_int pe_int)) (pe_op op_pow pe_int pe_int)) (pe_op op_pow pe_int pe_int)) (pe_op op_pow pe_int pe_int)) (pe_op op_pow pe_int pe_int)))
    (pss_cons (ps_set (i := 2) sc_law_pool.nd rfl (by first | exact Or.inl rfl | exact Or.inr rfl) pe_int)
    (pss_cons (ps_set (i := 3) sc_law_pool.nd rfl (by first | exact Or.inl rfl | exact Or.inr rfl) (pe_lst pa_nil))
    (pss_cons (ps_for PassesOwn.never rfl (ki_list (K := K) rfl (pv 0)) (pg_name (i := 4) sc_law_pool.nd rfl (by first | exact Or.inl rfl | exact Or.inr rfl))
      (pss_cons (ps_set (i := 2) sc_law_pool.nd rfl (by first | exact Or.inl rfl | exact Or.inr rfl) (pe_op op_mod (pe_op op_add (pe_op op_add (pe_op op_mul (pv 2) pe_int) (pe_op op_mul (pe_op op_mod (pe_callTy call_int1 (by rfl) T.z_int (by decide +kernel) (pa_cons (pv 4) pa_nil)) pe_int) pe_int)) pe_int) pe_int))
      (pss_one (ps_if (pt_cmpR op_ge (pe_callTy call_int1 (by rfl) T.z_int (by decide +kernel) (pa_cons (pv 4) pa_nil)) (pe_op op_pow pe_int pe_int) (nomark _))
        (pss_one (ps_expr (ke_bm (K := K) rfl PySem.F.plainAttrs_list PySem.F.slot_list_append PySem.F.type_list_append mt_append (pv 3) (pa_cons (pe_op op_mod (pe_callTy call_int1 (by rfl) T.z_int (by decide +kernel) (pa_cons (pv 4) pa_nil)) (pv 1)) pa_nil))))
        pss_nil))))
    (pss_one (ps_ret (pe_lst (pa_cons (pe_op op_add (pv 2) pe_int) (pa_cons (ke_rev (K := K) rfl (pv 3)) pa_nil))))))))), ?_⟩
    refine ⟨_, _, rfl, rfl, cpow60, _, _, rfl, rfl, cpow60, _, _, rfl, rfl, (by unfold CMulW; decide +kernel), _, _, rfl, rfl, cpow60, _, _, rfl, rfl, (by unfold CMulW; decide +kernel), _, _, rfl, rfl, cpow60, _, _, rfl, rfl, (by unfold CMulW; decide +kernel), _, _, rfl, rfl, cpow60, _, _, rfl, rfl, (by unfold CMulW; decide +kernel), _, _, rfl, rfl, cpow60, _, _, rfl, rfl, (by unfold CMulW; decide +kernel), ?_⟩
    refine ⟨Nat.zero_le _, fun G hG => ?_⟩
    have e0 : Fe H (upd H G (.lst [])) := Fe.new hG
    refine ⟨_, rfl, a, rfl, ⟨_, e0.same.seq hs⟩, for_list (K := K) (a := a) (xs := ns.map V.int) (fun i σ' H' => ∃ (most st : Int) (gs : List Int) (o4 : Option V), σ' = [some (.ref a), some (.int most), some (.int st), some (.ref G), o4] ∧ 0 < most ∧ Fe H H' ∧ H' G = some (.lst (gs.map V.int)) ∧ gs.length ≤ i)
      ⟨_, 20707, [], none, rfl, by decide +kernel, e0, upd_same, Nat.le_refl _⟩ (fun i σ' H' _ ⟨_, _, _, _, _, _, e, _⟩ => e.same.seq hs) ?_ ?_⟩
    · rintro i x σ' H' hx ⟨most, st, gs, o4, rfl, hm0, e, hGl, hl⟩
      have hi : i < ns.length := by
        have := (List.getElem?_eq_some_iff.mp hx).1
        rwa [List.length_map] at this
      rw [List.getElem?_map, List.getElem?_eq_getElem hi] at hx
      cases hx
      generalize ns[i] = c
      refine ⟨_, rfl, _, _, rfl, rfl, .inr (by decide), _, rfl, .inl ⟨_, rfl, _, _, rfl, rfl, (by show (0 : Int) < 998244353; decide), _, _, rfl, rfl, .inr (by decide), _, _, rfl, rfl, _, _, rfl, rfl, _, _, rfl, rfl, (by show (0 : Int) < 2147483497; decide), ?_⟩⟩
      refine ⟨_, rfl, .inl ⟨_, rfl, _, _, rfl, rfl, cpow18, _, _, rfl, rfl, _, rfl, ?_⟩⟩
      refine ite2 (fun _ => ?_) (fun _ => ?_)
      · refine ⟨_, rfl, .inl ⟨rfl, _, SqL.of hGl⟩, _, rfl, .inl ⟨_, rfl, _, rfl, _, _, rfl, rfl, hm0, G, _, _, rfl, rfl, hGl, by rw [List.length_map, sizeLine_eq]; omega, ?_⟩⟩
        exact ⟨most, _, gs ++ [c % most], _, rfl, hm0, e.mut hG, by rw [upd_same, List.map_append]; rfl, by rw [List.length_append, List.length_singleton]; omega⟩
      · exact ⟨most, _, gs, _, rfl, hm0, e, hGl, by omega⟩
    · rintro σ' H' ⟨most, st, gs, o4, rfl, hm0, e, hGl, hl⟩
      rw [List.length_map] at hl
      refine ⟨_, rfl, _, _, rfl, rfl, _, rfl, G, _, rfl, SqL.of hGl, fun g hg => ⟨by show 2 ≤ sizeLine; decide, fun p hp => ?_⟩⟩
      have f1 := Fe.new (o := .lst (gs.map V.int).reverse) hg
      have f2 := f1.trans (Fe.new (o := .lst [.int (st + 1), .ref g]) hp)
      refine kk p g _ (e.trans f2) (e.free (f1.free hp)) (e.free hg) ⟨st + 1, gs.reverse, upd_same, ?_, by rw [List.length_reverse]; omega⟩
      rw [upd_ne (ne_of_none upd_same hp), upd_same, List.map_reverse]
theorem ok_law_draw (T : Txt K g) : FnOk P w K g base CX0 1 T.d_law_draw.f T.d_law_draw.fd P_law_draw spDraw := by
  refine T.d_law_draw.F.ok sc_law_draw (fun vs H Q E h => ?_) (fun cdv A outer s H vs Q E hr h => ?_)
  · obtain ⟨_, _, _, rfl, _⟩ := h
    rfl
  · obtain ⟨p, g, n, rfl, hP, hn0, hn, kk⟩ := h
    have hu := hu_of hr
    refine ⟨_, (pss_cons (ps_set (i := 2) sc_law_draw.nd rfl (by first | exact Or.inl rfl | exact Or.inr rfl) (pe_ix (kx_list (K := K) rfl) (pv 0) pe_int (fun _ _ => rfl)))
    (pss_cons (ps_if (pt_cmpR op_gt (pe_callB (kc_len (K := K) rfl) (by rfl) T.z_len PySem.boot_len (pa_cons (pv 2) pa_nil)) pe_int (nomark _))
      (pss_cons (ps_set (i := 3) sc_law_draw.nd rfl (by first | exact Or.inl rfl | exact Or.inr rfl) (pe_callTy call_int1 (by rfl) T.z_int (by decide +kernel) (pa_cons (ke_bm0 (K := K) rfl PySem.F.plainAttrs_list PySem.F.slot_list_pop PySem.F.type_list_pop mt_pop (pv 2)) pa_nil)))
      (pss_cons (ps_if (pt_cmpR op_ge (pv 3) (pv 1) (nomark _))
        (pss_one (ps_expr (ke_bm (K := K) rfl PySem.F.plainAttrs_list PySem.F.slot_list_append PySem.F.type_list_append mt_append (pv 2) (pa_cons (pe_op op_fdiv (pv 3) (pv 1)) pa_nil))))
        pss_nil)
      (pss_one (ps_ret (pe_op op_mod (pe_callTy call_int1 (by rfl) T.z_int (by decide +kernel) (pa_cons (pv 3) pa_nil)) (pv 1))))))
      pss_nil)
    (pss_cons (ps_set (i := 4) sc_law_draw.nd rfl (by first | exact Or.inl rfl | exact Or.inr rfl) (pe_op op_mod (pe_op op_mul (pe_callTy call_int1 (by rfl) T.z_int (by decide +kernel) (pa_cons (pe_ix (kx_list (K := K) rfl) (pv 0) pe_int (fun _ _ => rfl)) pa_nil)) pe_int) pe_int))
    (pss_cons (ps_asg (pv 4) (pg_sub (pv 0) pe_int set_list))
    (pss_one (ps_ret (pe_op op_mod (pe_op op_fdiv (pv 4) pe_int) (pv 1)))))))), ?_⟩
    have hne := hP.ne
    obtain ⟨st, gs, hp, hg, hl⟩ := id hP
    refine ⟨_, rfl, p, _, _, _, rfl, rfl, SqL.of hp, atI_nat (j := 1) rfl, ?_⟩
    refine ⟨_, rfl, g, _, rfl, .inl (SqL.of hg), _, _, rfl, rfl, _, rfl, ?_⟩
    cases gs with
    | cons g0 gs0 =>
      rw [decide_eq_true (show ((((g0 :: gs0).map V.int).length : Nat) : Int) > 0 by rw [List.length_map, List.length_cons]; omega)]
      refine iteT ?_
      generalize hgs : g0 :: gs0 = gs at hg hl
      have hne2 : gs ≠ [] := by rw [← hgs]; exact fun z => nomatch z
      clear hgs g0 gs0
      have hd := List.dropLast_concat_getLast hne2
      generalize gs.getLast hne2 = last at hd
      generalize gs.dropLast = rest at hd
      subst hd
      have hlast : ((rest ++ [last]).map V.int)[((rest ++ [last]).map V.int).length - 1]? = some (.int last) := by
        rw [List.map_append, List.length_append, List.getElem?_append_right (by simp)]
        simp
      have hdl : ((rest ++ [last]).map V.int).dropLast = rest.map V.int := by
        rw [List.map_append]; simp
      rw [List.length_append, List.length_singleton] at hl
      have f1 : Fx [p, g] H (upd H g (.lst (rest.map V.int))) := Fx.put hg (by simp) (fun _ z => nomatch z)
      have P1 : Pl (upd H g (.lst (rest.map V.int))) p g := ⟨st, rest, by rw [upd_ne hne]; exact hp, upd_same, by omega⟩
      refine ⟨_, rfl, .inl ⟨rfl, _, SqL.of hg⟩, g, _, _, rfl, rfl, hg, hlast, .inl ⟨_, rfl, ?_⟩⟩
      rw [hdl]
      refine ⟨_, rfl, _, rfl, _, _, rfl, rfl, _, rfl, ?_⟩
      obtain ⟨r, hr1, hr2⟩ := mod_nat last hn0
      refine ite2 (fun _ => ?_) (fun _ => ?_)
      · refine ⟨_, rfl, .inl ⟨rfl, _, SqL.of upd_same⟩, _, rfl, _, rfl, _, _, rfl, rfl, ⟨by omega, by omega⟩, g, _, _, rfl, rfl, upd_same, by rw [List.length_map, sizeLine_eq]; omega, ?_⟩
        have f2 : Fx [p, g] (upd H g (.lst (rest.map V.int))) (upd (upd H g (.lst (rest.map V.int))) g (.lst (rest.map V.int ++ [.int (last / (n : Int))]))) := Fx.put upd_same (by simp) (fun _ z => nomatch z)
        refine ⟨_, rfl, .inl ⟨_, rfl, _, rfl, _, _, rfl, rfl, (by show (0 : Int) < (n : Int); omega), ?_⟩⟩
        show Q (.int (last % (n : Int))) _
        rw [hr1]
        refine kk r _ (f1.trans f2) ⟨st, rest ++ [last / (n : Int)], by rw [upd_ne hne, upd_ne hne]; exact hp, by rw [upd_same, List.map_append]; rfl, by rw [List.length_append, List.length_singleton]; omega⟩ hr2
      · refine ⟨_, rfl, .inl ⟨_, rfl, _, rfl, _, _, rfl, rfl, (by show (0 : Int) < (n : Int); omega), ?_⟩⟩
        show Q (.int (last % (n : Int))) _
        rw [hr1]
        exact kk r _ f1 P1 hr2
    | nil =>
      rw [decide_eq_false (show ¬ ((((([] : List Int).map V.int).length : Nat) : Int) > 0) by simp)]
      refine iteF ?_
      refine ⟨_, rfl, p, _, _, _, rfl, rfl, SqL.of hp, atI_nat (j := 0) rfl, .inl ⟨_, rfl, _, _, rfl, rfl, .inr (by decide), _, _, rfl, rfl, (by show (0 : Int) < 2147483647; decide), ?_⟩⟩
      refine ⟨_, rfl, _, rfl, p, _, _, 0, rfl, rfl, hp, rfl, ?_⟩
      obtain ⟨r, hr1, hr2⟩ := mod_nat (st * 41358 % 2147483647 / 37) hn0
      refine ⟨_, rfl, _, _, rfl, rfl, ⟨by decide, by decide⟩, _, rfl, _, _, rfl, rfl, (by show (0 : Int) < (n : Int); omega), ?_⟩
      show Q (.int (st * 41358 % 2147483647 / 37 % (n : Int))) _
      rw [hr1]
      refine kk r _ (Fx.put hp (by simp) (fun _ z => nomatch z)) ⟨st * 41358 % 2147483647, [], upd_same, by rw [upd_ne hne.symm]; exact hg, by simp⟩ hr2
end
end Fm
/-! dicts with keys that are tuples of ints and texts: comprehensions, displays -/
namespace Fm
open PySem PySem.Spec PyProof.Rows L2
section
variable {X : Cx} {pins : List (Addr × Obj)} {σ : L2.St} {H : Hp} {s : Shared}
/-- the store of a comprehension, whatever the keys are -/
theorem comp_store {H' : Hp} {d : Addr} {y v : V} {ku vu : Value} {E : Value → Shared → Prop} {Q : Unit → Shared → Prop} (hu : X.A.units < cLine) (I : Inv X pins σ H s) (g : DPut H d y v H') (ry : RelV y ku) (rv : RelV v vu)
    (k : ∀ s', Inv X pins σ H' s' → Q () s') : wpAny (model X.prog X.w) X.A (dictSet d ku vu) Q E s := by
  rcases g with ⟨kvs, q, e, rfl, l, rfl⟩ | ⟨kvs, q, b, e, rfl, eb, l, rfl⟩
  · exact d_dictSet I e l ry rv k
  · cases (show ku = Value.ref b from ry)
    obtain ⟨z, hd, xs, rel, dd⟩ := dt_of I.hok e
    have len := Paired.length rel
    have most : (putK kvs q v).length ≤ sizeLine := Nat.le_trans (length_putK kvs q v) l
    refine wpAny_dictSet_heap (knd := tupleKind (mixKind X.prog X.w)) (hsz := by rw [← len]; exact z) hu (key_of I.hok eb) dd fun h' dd' hs => k _ ?_
    obtain ⟨o, es, ep, a1, a2, a3, a4, _, a6⟩ := dd'
    refine d_write I (by rw [e]; exact True.intro) hs ⟨o, a1⟩ ⟨most, hd, _, (rel.put q eb rv).keeps fun c ys ec => ?_, o, es, ep, a1, a2, a3, a4, a6⟩
    rw [upd_ne (ne_of ec e (fun z => nomatch z))]
    exact ec
end
/-- {key: value for target in iter if ..} from the empty dict o: D the new one -/
def tDcP (o : HO) (wi : TI) (g : TG) (tt : TT) (tk tv : TE) (vs : List Nat) : TE := fun σ H Q => wi σ H fun J H1 => ∀ D, H1 D = none → ∃ W : Nat → Nat → Hp → Prop, (∃ m, W 0 m (upd H1 D o)) ∧ ∀ i m H, W i m H →
  (J.stop i H ∧ Q (.ref D) H) ∨ (J.go i H ∧ ∃ Nx : Hp → Prop, (∀ H', Nx H' → ∃ m', m' < m ∧ W (i + 1) m' H') ∧ ∀ x H', J.yld i H x H' → g x (wipe σ vs) H' fun σ2 H2 => wipe σ2 vs = wipe σ vs ∧ tt σ2 H2 fun b H3 =>
    if b = true then tk σ2 H3 fun y H4 => tv σ2 H4 fun z H5 => ∃ H6, DPut H5 D y z H6 ∧ Nx H6 else Nx H3)
section
variable {X : Cx} {kx vx tg iter : Expr} {ifs : List Expr} {scope : Scope} {own : List (Str × Nat)} {pos : Pos} {wi : TI} {g : TG} {tt : TT} {tk tv : TE} {o : HO}
theorem ke_dc (ho : o = .dK [] ∨ o = .dT []) (hu : X.A.units < cLine) (hc : X.calm = true) (hN : X.N.Nodup) (hi : PI X tg iter wi) (ok : BlkOk X.N X.env.scope scope own)
    (hg : ∀ (s : Shared) (H : Hp) (C : Addr) (cl : List (Str × Addr)) (fp : List Addr), PG (X.blk s H scope (compEnvC scope cl C X.env) fp) tg g)
    (ht : ∀ (s : Shared) (H : Hp) (C : Addr) (cl : List (Str × Addr)) (fp : List Addr), PTs (X.blk s H scope (compEnvC scope cl C X.env) fp) ifs tt)
    (hk : ∀ (s : Shared) (H : Hp) (C : Addr) (cl : List (Str × Addr)) (fp : List Addr), PE (X.blk s H scope (compEnvC scope cl C X.env) fp) kx tk)
    (he : ∀ (s : Shared) (H : Hp) (C : Addr) (cl : List (Str × Addr)) (fp : List Addr), PE (X.blk s H scope (compEnvC scope cl C X.env) fp) vx tv)
    (hs : ∀ x, foldedSetIterable iter X.env x = pure x := by intro _; rfl) :
    PE X (.DictComp kx vx [⟨tg, iter, ifs, 0⟩] scope pos) (tDcP o wi g tt tk tv (own.map (·.2))) := by
  refine ⟨fun pins s σ H Q I h => ?_⟩
  rw [arm_eval_DictComp]
  have captured : ∀ y ∈ scope.names, y.2 = .free → ∃ c, X.env.cells.lookup y.1 = some c := fun y hy e =>
    (ok.free y hy e).elim (fun k => I.ok.has _ (.inl k)) (fun k => I.ok.has _ (.inr k))
  refine wpAny_comprehension_free rfl hs (closure_ok captured) ok.kind (fun y hy e => by rw [ok.uniq y hy, e]) (thn (hi.run pins s σ H _ I h) fun xv s1 hx => thn hx fun itv s2 h2 => ?_)
  obtain ⟨it, fp, tn, J, Ha, e, Ia, Tn, sta, fa, q⟩ := h2
  subst e
  refine wpAny_newObj_type (newEnv_comp ?_)
  generalize eD : s2.heap.objs.size = D
  have freeD : Ha D = none := Ia.hok.fresh (Nat.le_of_eq eD)
  obtain ⟨W, ⟨m0, w0⟩, turns⟩ := q D freeD
  generalize eb : ({ s2 with heap := s2.heap.push { cls := .type "dict", data := .dict #[] } } : Shared) = sb
  have Ib : Inv X pins σ (upd Ha D o) sb := by
    rw [← eb]
    refine Ia.laid (t' := s2.toks) (fun b u e => Heap.get?_push_of_some _ e) (Nat.le_of_eq eD) ?_
    rw [← eD]
    rcases ho with rfl | rfl
    · exact dk_empty s2.heap Ia.big
    · exact dt_empty s2.heap Ia.big
  have hb : sb.heap = s2.heap.push { cls := .type "dict", data := .dict #[] } := by rw [← eb]
  have low : ∀ b ∈ fp, b < s2.heap.objs.size := fun b m => let ⟨_, e, _⟩ := Tn.obj _ _ sta b m; Heap.lt_size e
  have fb : ∀ b ∈ fp, FpOk X pins (upd Ha D o) b ∧ b < sb.heap.objs.size := fun b m => by
    refine ⟨⟨?_, (fa b m).2⟩, by rw [hb, Heap.size_push]; exact Nat.lt_succ_of_lt (low b m)⟩
    rw [upd_ne (by rw [← eD]; exact Nat.ne_of_lt (low b m))]
    exact (fa b m).1
  have stb : tn 0 sb.heap := Tn.keep _ _ _ sta fun b _ u e => by rw [hb]; exact Heap.get?_push_of_some _ e
  have Ic := block_start Ib ok hN fb
  have rg := hg sb (upd Ha D o) sb.heap.objs.size (cellsFrom (sb.heap.objs.size + 1) scope.names (cloFrom X.env.cells scope.names [])) fp
  have rt := ht sb (upd Ha D o) sb.heap.objs.size (cellsFrom (sb.heap.objs.size + 1) scope.names (cloFrom X.env.cells scope.names [])) fp
  have rk := hk sb (upd Ha D o) sb.heap.objs.size (cellsFrom (sb.heap.objs.size + 1) scope.names (cloFrom X.env.cells scope.names [])) fp
  have rv := he sb (upd Ha D o) sb.heap.objs.size (cellsFrom (sb.heap.objs.size + 1) scope.names (cloFrom X.env.cells scope.names [])) fp
  have apart : ∀ b ∈ fp, (upd Ha D o) b = none := fun b m => (fb b m).1.1
  show codeAny _ _ (.compStart (.DictComp kx vx [⟨tg, iter, ifs, 0⟩] scope pos) 0 (.ref it) (.ref D) (compEnvC scope (cellsFrom (sb.heap.objs.size + 1) scope.names (cloFrom X.env.cells scope.names [])) sb.heap.objs.size X.env)) _ { sb with heap := pushCells (sb.heap.push { cls := .type "dict", data := .dict #[] }) scope.names }
  generalize ece : compEnvC scope (cellsFrom (sb.heap.objs.size + 1) scope.names (cloFrom X.env.cells scope.names [])) sb.heap.objs.size X.env = ce at Ic rg rt rk rv ⊢
  have loc : ce.locals = sb.heap.objs.size := by subst ece; rfl
  generalize eHb : upd Ha D o = Hb at Ib Ic rg rt rk rv w0 apart fb
  generalize ec : ({ sb with heap := pushCells (sb.heap.push { cls := .type "dict", data := .dict #[] }) scope.names } : Shared) = sc at Ic ⊢
  have stc : tn 0 sc.heap := Tn.keep _ _ _ stb fun b _ u e => by rw [← ec]; exact pushCells_keeps _ _ _ _ (Heap.get?_push_of_some _ e)
  have inside : ∀ {σ' : L2.St} {H' : Hp} {s' : Shared}, Inv (X.blk sb Hb scope ce fp) [] σ' H' s' → (∀ b ∈ fp, H' b = none) → ∀ b ∈ fp, FpOk (X.blk sb Hb scope ce fp) [] H' b := fun I' n b m =>
    ⟨n b m, (I'.ok.exf b m).1, I'.ok.exfs b m, .inl m, fun x c e => (I'.ok.exf b m).2 x c e, fun p hp => absurd (show p ∈ ([] : List (Addr × Obj)) ++ [] from hp) (by simp)⟩
  refine (fun loop => codeAny_compStart_dict loop (Tn.self X.A 0 _ _ _ stc loop)) ?_
  refine compLoop_anyD (fun n s' => ∃ i H', Inv (X.blk sb Hb scope ce fp) [] (wipe σ (own.map (·.2))) H' s' ∧ tn i s'.heap ∧ (∀ b ∈ fp, H' b = none) ∧ W i n H') ?_ m0 ⟨0, Hb, Ic, stc, apart, w0⟩
  rintro n sd ⟨i, Hd, Id, std, nd, wd⟩
  rcases turns i n Hd wd with ⟨stop, qq⟩ | ⟨go, Nx, later, step⟩
  · refine thnF (Tn.done (X.blk sb Hb scope ce fp) rfl rfl rfl hc i [] sd _ Hd (fun _ _ => False) Id (inside Id nd) std stop) fun r se ⟨hr, Ie⟩ => ?_
    subst hr
    have If : Inv X pins σ Hd se := Ib.call' (ch := fp) Ie.os Ie.base Ie.hok Ie.bare fun b m => ⟨(fb b m).1.2.2.2.1, (fb b m).1.2.1, (fb b m).1.2.2.2.2.1, (fb b m).1.2.2.2.2.2⟩
    have nC : Hd sb.heap.objs.size = none := by rw [← loc]; exact Ie.free
    obtain ⟨mm, hn, _⟩ := Ie.loc
    have hn : se.heap.Ns ce.locals mm := hn
    rw [loc] at hn
    refine ⟨mm, hn, fun h'' sb' => ?_⟩
    obtain ⟨f0, f1, f2, f3, f4, f5⟩ := Ib.fpOk (Nat.le_refl _) nC
    exact ⟨.ref D, Hd, If.turned (t' := se.toks) (fun b u hb' e => (sb'.2 b hb').trans e) f0 f1 f3 f4 f5, rfl, qq⟩
  · refine thnF (Tn.item (X.blk sb Hb scope ce fp) rfl rfl rfl hc i [] sd _ Hd (fun _ _ => False) Id (inside Id nd) std go) fun r se ⟨u, hr, hh⟩ => ?_
    subst hr
    refine thnF hh fun _ sf ⟨x, Hf, If, rf, yf, stf, nf⟩ => ?_
    have Ip := If.pinned (inside If nf) (Tn.obj _ _ stf)
    refine thnF (rg.run _ sf _ Hf x u _ Ip rf (step x Hf yf)) fun _ sg ⟨σg, Hg, Ig, wg, qg⟩ => ?_
    refine thnF (rt.run _ sg σg Hg _ Ig qg) fun b sh ⟨Hh, Ih, qh⟩ => ?_
    have close : ∀ {s' : Shared} {H' : Hp}, Inv (X.blk sb Hb scope ce fp) ([] ++ pinsAt fp sf.heap) σg H' s' → Nx H' → ∃ m, m < n ∧ ∃ i H', Inv (X.blk sb Hb scope ce fp) [] (wipe σ (own.map (·.2))) H' s' ∧ tn i s'.heap ∧ (∀ b ∈ fp, H' b = none) ∧ W i m H' := fun {s' H'} I' nx => by
      obtain ⟨m', less, w'⟩ := later H' nx
      have pinned : ∀ b ∈ fp, ∀ u, sf.heap.get? b = some u → s'.heap.get? b = some u ∧ H' b = none := fun b m u e =>
        let z := I'.pin (b, u) (List.mem_append_right _ (List.mem_append_right _ (mem_pinsAt m e)))
        ⟨z.1, z.2.1⟩
      refine ⟨m', less, i + 1, H', (I'.unpinned (pins := [])).weak (by rw [← wg, wipe_length]) (fun j v e => ?_), Tn.keep _ _ _ stf fun b m u e => (pinned b m u e).1, fun b m => ?_, w'⟩
      · rw [← wg] at e
        exact (wipe_some e).1
      · obtain ⟨u, e, _⟩ := Tn.obj _ _ stf b m
        exact (pinned b m u e).2
    cases b with
    | false =>
      simp only [Bool.false_eq_true, if_false] at qh ⊢
      exact close Ih qh
    | true =>
      simp only [if_true] at qh ⊢
      refine thnF (rk.run _ sh σg Hh _ Ih qh) fun z si ⟨yk, Hi, Ii, ri, qi⟩ => ?_
      refine thnF (rv.run _ si σg Hi _ Ii qi) fun z2 sj ⟨yv, Hj, Ij, rj, H6, put, nx⟩ => ?_
      exact comp_store (X := X.blk sb Hb scope ce fp) hu Ij put ri rj fun s' I' => close I' nx
end
/-! ### displays -/
section
variable {κ : Type} [DecidableEq κ]
def mergeT (kvs more : List (κ × V)) : List (κ × V) := more.foldl (fun acc kv => putK acc kv.1 kv.2) kvs
end
/-- {(..): v, ..}: the pairs made from the left, the new dict empty meanwhile -/
def tDispT (trs : List (TE × TE)) : TE := fun σ H Q => ∀ p, H p = none → tPairs trs σ (upd H p (.dT [])) fun ps H2 => H2 p = some (.dT []) ∧ ∃ kas : List (List Key × Addr × V),
  ps = kas.map (fun t => (V.ref t.2.1, t.2.2)) ∧ (∀ t ∈ kas, H2 t.2.1 = some (.tup (t.1.map kV))) ∧ kas.length ≤ 15 ∧ Q (.ref p) (upd H2 p (.dT (mergeT [] (kas.map fun t => (t.1, t.2.2)))))
theorem carriesT {P : Program} {w : World} {H : Hp} {h : Heap} (ok : HOk P w H h) : ∀ {kas : List (List Key × Addr × V)} {ws : List (Value × Value)}, (∀ t ∈ kas, H t.2.1 = some (.tup (t.1.map kV))) → VV (kas.map fun t => (V.ref t.2.1, t.2.2)) ws →
    ∃ rs : List (List Key × Addr × Value), CarriesH (tupleKind (mixKind P w)) h ws rs ∧ Paired (fun (t : List Key × Addr × V) (r : List Key × Addr × Value) => t.1 = r.1 ∧ t.2.1 = r.2.1 ∧ RelV t.2.2 r.2.2) kas rs
  | [], _, _, .nil => ⟨[], True.intro, .nil⟩
  | t :: kas, _, hk, .cons (l₂ := ws) (b := b) q r => by
    obtain ⟨rs, a, c⟩ := carriesT ok (fun t m => hk t (List.mem_cons_of_mem _ m)) r
    obtain ⟨b1, b2⟩ := b
    have e : b1 = Value.ref t.2.1 := q.1
    subst e
    exact ⟨(t.1, t.2.1, b2) :: rs, ⟨rfl, rfl, key_of ok (hk t List.mem_cons_self), a⟩, .cons ⟨rfl, rfl, q.2⟩ c⟩
theorem merge_kt {H : Hp} : ∀ {kas : List (List Key × Addr × V)} {rs : List (List Key × Addr × Value)} {kvs : List (List Key × V)} {xs : List (List Key × Addr × Value)}, (∀ t ∈ kas, H t.2.1 = some (.tup (t.1.map kV))) →
    Paired (fun (t : List Key × Addr × V) (r : List Key × Addr × Value) => t.1 = r.1 ∧ t.2.1 = r.2.1 ∧ RelV t.2.2 r.2.2) kas rs → KT H kvs xs → KT H (mergeT kvs (kas.map fun t => (t.1, t.2.2))) (storedAllH xs rs)
  | [], _, _, _, _, .nil, h => h
  | t :: kas, _, _, _, hk, .cons (b := b) (l₂ := rs') q r, h => by
    obtain ⟨b1, b2, b3⟩ := b
    obtain ⟨e1, e2, e3⟩ := q
    cases e1; cases e2
    exact merge_kt (kas := kas) (rs := rs') (fun t m => hk t (List.mem_cons_of_mem _ m)) r (h.put t.1 (hk t List.mem_cons_self) e3)
theorem mergeT_len {κ : Type} [DecidableEq κ] : ∀ (more kvs : List (κ × V)), (mergeT kvs more).length ≤ kvs.length + more.length
  | [], kvs => Nat.le_refl _
  | p :: more, kvs => by
    have a := mergeT_len more (putK kvs p.1 p.2)
    have b := length_putK kvs p.1 p.2
    show (mergeT (putK kvs p.1 p.2) more).length ≤ _
    rw [List.length_cons]
    omega
theorem ke_dispT {X : Cx} {pos : Pos} {keys : List (Option Expr)} {values : List Expr} {trs : List (TE × TE)} (hu : X.A.units < cLine) (h : PPs X pos keys values trs) (hall : keys.all (·.isSome) = true) (hl : keys.length = values.length) (h0 : keys ≠ [])
    (h15 : keys.length ≤ 15) : PE X (.Dict keys values pos) (tDispT trs) := by
  refine ⟨fun pins s σ H Q I q => ?_⟩
  have many := pairTrees_length keys values X.env pos hall hl
  have some1 : pairTrees keys values X.env pos ≠ [] := fun z => by
    rw [z] at many
    exact h0 (List.length_eq_zero_iff.mp many.symm)
  have fresh := I.hok.fresh (Nat.le_refl s.heap.objs.size)
  have I1 := I.laid (a := s.heap.objs.size) (o := .dT []) (h' := s.heap.push { cls := .type "dict", data := .dict #[] }) (t' := s.toks) (fun _ _ z => Heap.get?_push_of_some _ z) (Nat.le_refl _) (dt_empty s.heap I.big)
  rw [arm_eval_Dict, zip_pairTrees keys values X.env pos hall hl, dictDisplay_pairs (pairTrees keys values X.env pos) some1 (by rw [many]; omega)]
  refine wpAny_bind (wpAny_standAt (wpAny_bind (wpAny_subDictH (knd := tupleKind (mixKind X.prog X.w)) (Q := fun d s' => wpAny (model X.prog X.w) X.A (pure (Value.ref d)) _ _ s') hu (by rw [many]; exact h15) ?_)))
  refine thn (h.run pins _ σ _ _ I1 (q _ fresh)) fun ws s2 ⟨ps, H2, I2, rel, e, kas, ep, hk, lk, q2⟩ => ?_
  subst ep
  obtain ⟨rs, c, rk⟩ := carriesT I2.hok hk rel
  obtain ⟨z, hd, xs0, r0, dd⟩ := dt_of I2.hok e
  cases r0
  refine ⟨rs, c, dd, fun h' tk dd' hs => wpAny_pure ⟨.ref s.heap.objs.size, _, ?_, rfl, q2⟩⟩
  have lz : (mergeT [] (kas.map fun t => (t.1, t.2.2))).length ≤ sizeLine := by
    have a := mergeT_len (kas.map fun t => (t.1, t.2.2)) []
    rw [List.length_map, List.length_nil] at a
    rw [sizeLine_eq]; omega
  obtain ⟨o, es, epo, a1, a2, a3, a4, _, a6⟩ := dd'
  refine d_write I2 (by rw [e]; exact True.intro) hs ⟨o, a1⟩ ⟨lz, hd, _, (merge_kt hk rk .nil).keeps fun b ys eb => ?_, o, es, epo, a1, a2, a3, a4, a6⟩
  rw [upd_ne (ne_of eb e (fun z => nomatch z))]
  exact eb
end Fm
namespace Fm
open PySem L2
/-- nodes to which moves lead -/
inductive Rch {α : Type} (web : List (List (α × Nat))) (bs : List Nat) : Nat → Prop
  | beg {b : Nat} : b ∈ bs → Rch web bs b
  | step {n t : Nat} {l : α} {row : List (α × Nat)} : Rch web bs n → web[n]? = some row → (l, t) ∈ row → Rch web bs t
structure NF {α : Type} (web : List (List (α × Nat))) (bs : List Nat) (fl : List Bool) (q : List Nat) : Prop where
  len : fl.length = web.length
  mem : ∀ n, fl[n]? = some true ↔ n ∈ q
  cnt : q.length + fl.count false = fl.length
  rch : ∀ n ∈ q, Rch web bs n
theorem count_set : ∀ (fl : List Bool) (t : Nat), fl[t]? = some false → (fl.set t true).count false + 1 = fl.count false
  | [], t, h => by cases t <;> cases h
  | b :: fl, 0, h => by
    cases h
    rw [List.set_cons_zero, List.count_cons, List.count_cons]
    simp
  | b :: fl, t + 1, h => by
    rw [List.set_cons_succ, List.count_cons, List.count_cons]
    have := count_set fl t h
    omega
theorem NF.put {α : Type} {web : List (List (α × Nat))} {bs : List Nat} {fl : List Bool} {q : List Nat} (N : NF web bs fl q) {t : Nat} (h : fl[t]? = some false) (r : Rch web bs t) : NF web bs (fl.set t true) (q ++ [t]) where
  len := by rw [List.length_set]; exact N.len
  mem := fun n => by
    have ht : t < fl.length := (List.getElem?_eq_some_iff.mp h).1
    rw [List.getElem?_set, List.mem_append, List.mem_singleton]
    by_cases e : t = n
    · subst e; simp [ht]
    · rw [if_neg e, N.mem n]
      exact ⟨.inl, fun z => z.elim id fun z => absurd z.symm e⟩
  cnt := by
    have := count_set fl t h
    have := N.cnt
    rw [List.length_append, List.length_set, List.length_singleton]
    omega
  rch := fun n hn => by
    rcases List.mem_append.mp hn with z | z
    · exact N.rch n z
    · rw [List.mem_singleton.mp z]; exact r
theorem NF.start {α : Type} (web : List (List (α × Nat))) (bs : List Nat) : NF web bs (List.replicate web.length false) [] where
  len := List.length_replicate
  mem := fun n => by
    rw [List.getElem?_replicate]
    split <;> simp
  cnt := by simp
  rch := fun n hn => nomatch hn
/-- all successors of the first k of q are in q -/
def Done {α : Type} (web : List (List (α × Nat))) (q : List Nat) (k : Nat) : Prop := ∀ i n row l t, i < k → q[i]? = some n → web[n]? = some row → (l, t) ∈ row → t ∈ q
def spNodesFrom : Sp := fun vs H Q _ => ∃ (α : Type) (r : Rp α) (_ : Me r) (web : List (List (α × Nat))) (bs : List Nat) (v1 v2 : V), vs = [v1, v2] ∧ rL (rL (rP r rN)) H v1 web ∧ rL rN H v2 bs ∧
  (∀ row ∈ web, ∀ p ∈ row, p.2 < web.length) ∧ (∀ b ∈ bs, b < web.length) ∧ web.length ≤ 100000 ∧
  ∀ (p : Addr) (H' : Hp) (fl : List Bool), Fe H H' → H p = none → H' p = some (.lst (fl.map V.bl)) → fl.length = web.length → (∀ n, fl[n]? = some true ↔ Rch web bs n) → Q (.ref p) H'
section
variable {P : Program} {w : World} {K : PySem.W.Frag} {g : Str → Option Value} {base : Heap}
end
end Fm
namespace Fm
open PySem L2
/-! ### turned_web -/
abbrev Ed {α : Type} (web : List (List (α × Nat))) (n : Nat) (l : α) (t : Nat) : Prop := ∃ row, web[n]? = some row ∧ (l, t) ∈ row
structure TW {α : Type} (web rows : List (List (α × Nat))) (S : Nat → α → Nat → Prop) : Prop where
  len : rows.length = web.length
  eds : ∀ t l n, Ed rows t l n ↔ (t < web.length ∧ S n l t)
theorem TW.put {α : Type} {web rows : List (List (α × Nat))} {S : Nat → α → Nat → Prop} (T : TW web rows S) {t0 n0 : Nat} {l0 : α} {row : List (α × Nat)} (h : rows[t0]? = some row) :
    TW web (rows.set t0 (row ++ [(l0, n0)])) (fun n l t => S n l t ∨ (n = n0 ∧ l = l0 ∧ t = t0)) where
  len := by rw [List.length_set]; exact T.len
  eds := fun t l n => by
    have ht := (List.getElem?_eq_some_iff.mp h).1
    have := T.eds t l n
    constructor
    · rintro ⟨row', h1, h2⟩
      rw [List.getElem?_set] at h1
      by_cases e : t0 = t
      · subst e
        rw [if_pos rfl, if_pos ht] at h1
        cases h1
        rw [List.mem_append, List.mem_singleton] at h2
        rcases h2 with h2 | h2
        · have := this.mp ⟨row, h, h2⟩
          exact ⟨this.1, .inl this.2⟩
        · cases h2
          exact ⟨by rw [← T.len]; exact ht, .inr ⟨rfl, rfl, rfl⟩⟩
      · rw [if_neg e] at h1
        have := this.mp ⟨row', h1, h2⟩
        exact ⟨this.1, .inl this.2⟩
    · rintro ⟨hl, h2 | ⟨rfl, rfl, rfl⟩⟩
      · obtain ⟨row', h1, h3⟩ := this.mpr ⟨hl, h2⟩
        by_cases e : t0 = t
        · subst e
          rw [h] at h1; cases h1
          exact ⟨_, by rw [List.getElem?_set, if_pos rfl, if_pos ht], List.mem_append_left _ h3⟩
        · exact ⟨row', by rw [List.getElem?_set, if_neg e]; exact h1, h3⟩
      · exact ⟨_, by rw [List.getElem?_set, if_pos rfl, if_pos ht], List.mem_append_right _ (List.mem_singleton.mpr rfl)⟩
theorem TW.imp {α : Type} {web rows : List (List (α × Nat))} {S S' : Nat → α → Nat → Prop} (T : TW web rows S) (h : ∀ n l t, t < web.length → (S n l t ↔ S' n l t)) : TW web rows S' :=
  ⟨T.len, fun t l n => by rw [T.eds t l n]; exact ⟨fun ⟨a, b⟩ => ⟨a, (h n l t a).mp b⟩, fun ⟨a, b⟩ => ⟨a, (h n l t a).mpr b⟩⟩⟩
theorem TW.start {α : Type} (web : List (List (α × Nat))) : TW web (List.replicate web.length []) (fun _ _ _ => False) :=
  ⟨List.length_replicate, fun t l n => by
    constructor
    · rintro ⟨row, h1, h2⟩
      rw [List.getElem?_replicate] at h1
      split at h1
      · cases h1; exact nomatch h2
      · cases h1
    · exact fun h => h.2.elim⟩
/-- a web whose moves go the other way round -/
def Turned {α : Type} (web rows : List (List (α × Nat))) : Prop := rows.length = web.length ∧ ∀ t l n, Ed rows t l n ↔ (t < web.length ∧ Ed web n l t)
def spTurnedWeb : Sp := fun vs H Q _ => ∃ (α : Type) (r : Rp α) (_ : Mo r) (web : List (List (α × Nat))) (v1 : V), vs = [v1] ∧ rL (rL (rP r rN)) H v1 web ∧
  (∀ row ∈ web, ∀ p ∈ row, p.2 < web.length) ∧ web.length ≤ 100000 ∧ (∀ row ∈ web, row.length ≤ 100) ∧
  ∀ (v : V) (H' : Hp) (rows : List (List (α × Nat))), Fe H H' → rL (rL (rP r rN)) H' v rows → Turned web rows → Q v H'
/-- the rows' sizes -/
theorem row_size {α : Type} {web rows : List (List (α × Nat))} : True := trivial
section
variable {P : Program} {w : World} {K : PySem.W.Frag} {g : Str → Option Value} {base : Heap}
end
end Fm
namespace Fm
open PySem L2
/-! ### live states -/
/-- nodes from which moves lead to ends -/
inductive Bch {α : Type} (web : List (List (α × Nat))) (es : List Nat) : Nat → Prop
  | fin {n : Nat} : n ∈ es → Bch web es n
  | step {n t : Nat} {l : α} : Ed web n l t → Bch web es t → Bch web es n
theorem rch_turned {α : Type} {web rows : List (List (α × Nat))} {es : List Nat} (T : Turned web rows) (hb : ∀ row ∈ web, ∀ p ∈ row, p.2 < web.length) (n : Nat) : Rch rows es n ↔ Bch web es n := by
  constructor
  · intro h
    induction h with
    | beg h => exact .fin h
    | @step n t l row _ hw hm ih => exact .step ((T.2 n l t).mp ⟨row, hw, hm⟩).2 ih
  · intro h
    induction h with
    | fin h => exact .beg h
    | @step n t l hE _ ih =>
      obtain ⟨row, h1, h2⟩ := hE
      obtain ⟨row', h3, h4⟩ := (T.2 t l n).mpr ⟨hb row (List.mem_of_getElem? h1) _ h2, row, h1, h2⟩
      exact .step ih h3 h4
def spNodesBetween : Sp := fun vs H Q _ => ∃ (α : Type) (r : Rp α) (_ : Mo r) (web : List (List (α × Nat))) (bs es : List Nat) (v1 v2 v3 : V), vs = [v1, v2, v3] ∧ rL (rL (rP r rN)) H v1 web ∧ rL rN H v2 bs ∧ rL rN H v3 es ∧
  (∀ row ∈ web, ∀ p ∈ row, p.2 < web.length) ∧ (∀ b ∈ bs, b < web.length) ∧ (∀ b ∈ es, b < web.length) ∧ web.length ≤ 100000 ∧ (∀ row ∈ web, row.length ≤ 100) ∧
  ∀ (v : V) (H' : Hp) (fl : List Bool), Fe H H' → rL rB H' v fl → fl.length = web.length → (∀ n, fl[n]? = some true ↔ (Rch web bs n ∧ Bch web es n)) → Q v H'
section
variable {P : Program} {w : World} {K : PySem.W.Frag} {g : Str → Option Value} {base : Heap}
/-! ### steps_by_state -/
abbrev rC : Rp Nat := fun _ v c => v = .str ⟨#[c]⟩
instance : Mo rC := ⟨fun _ h => h⟩
/-- states, ends, steps (from, letter, to) -/
abbrev Mach := Nat × List Nat × List (Nat × Nat × Nat)
abbrev rMach : Rp Mach := rP3 rN (rT rN) (rT (rP3 rN rC rN))
structure MOk (m : Mach) : Prop where
  pos : 0 < m.1
  few : m.1 ≤ 1000
  ends : ∀ q ∈ m.2.1, q < m.1
  st : ∀ s ∈ m.2.2, s.1 < m.1 ∧ s.2.2 < m.1
  fewS : m.2.2.length ≤ 100
def stepRows (n : Nat) (steps : List (Nat × Nat × Nat)) : List (List (Nat × Nat)) := (List.range n).map fun q => (steps.filter fun s => s.1 == q).map (·.2)
theorem stepRows_at {n : Nat} {steps : List (Nat × Nat × Nat)} {q : Nat} (h : q < n) : (stepRows n steps)[q]? = some ((steps.filter fun s => s.1 == q).map (·.2)) := by
  unfold stepRows
  rw [List.getElem?_map, List.getElem?_range h]
  rfl
theorem stepRows_len (n : Nat) (steps : List (Nat × Nat × Nat)) : (stepRows n steps).length = n := by
  unfold stepRows
  rw [List.length_map, List.length_range]
theorem stepRows_ed {n : Nat} {steps : List (Nat × Nat × Nat)} {q c t : Nat} (h : q < n) : Ed (stepRows n steps) q c t ↔ (q, c, t) ∈ steps := by
  constructor
  · rintro ⟨row, h1, h2⟩
    rw [stepRows_at h] at h1; cases h1
    obtain ⟨s, h3, h4⟩ := List.mem_map.mp h2
    obtain ⟨h5, h6⟩ := List.mem_filter.mp h3
    have : s.1 = q := by simpa using h6
    obtain ⟨a, b⟩ := s
    subst this
    cases h4
    exact h5
  · intro hm
    exact ⟨_, stepRows_at h, List.mem_map.mpr ⟨(q, c, t), List.mem_filter.mpr ⟨hm, by simp⟩, rfl⟩⟩
theorem stepRows_put {n : Nat} {steps : List (Nat × Nat × Nat)} {s : Nat × Nat × Nat} (h : s.1 < n) : (stepRows n steps).set s.1 ((steps.filter fun u => u.1 == s.1).map (·.2) ++ [s.2]) = stepRows n (steps ++ [s]) := by
  apply List.ext_getElem?
  intro i
  rw [List.getElem?_set]
  by_cases e : s.1 = i
  · subst e
    rw [if_pos rfl, stepRows_len, if_pos h, stepRows_at h, List.filter_append, List.map_append]
    simp
  · rw [if_neg e]
    by_cases hi : i < n
    · rw [stepRows_at hi, stepRows_at hi, List.filter_append, List.map_append]
      simp [e]
    · rw [List.getElem?_eq_none (by rw [stepRows_len]; omega), List.getElem?_eq_none (by rw [stepRows_len]; omega)]
def spStepsByState : Sp := fun vs H Q _ => ∃ (m : Mach) (v1 : V), vs = [v1] ∧ rMach H v1 m ∧ MOk m ∧
  ∀ (p : Addr) (H' : Hp) (qs : List Addr), Fe H H' → Mat (rP rC rN) H H' p qs (stepRows m.1 m.2.2) → Q (.ref p) H'
theorem ok_steps_by_state (T : Txt K g) : FnOk P w K g base CX0 1 T.d_steps_by_state.f T.d_steps_by_state.fd P_steps_by_state spStepsByState := by
  refine T.d_steps_by_state.F.ok sc_steps_by_state (fun vs H Q E h => ?_) (fun cdv A outer s H vs Q E hr h => ?_)
  · obtain ⟨m, v1, rfl, _⟩ := h
    rfl
  · obtain ⟨m, v1, rfl, hm, ok, kk⟩ := h
    have hu := hu_of hr
    refine ⟨_, (pss_cons (ps_setLc (i := 1) (own := [("_", 5)]) rfl sc_steps_by_state.nd rfl rfl (sw_true rfl rfl rfl (by decide +kernel)) (pi_range1 rfl T.z_range (pa_cons (pe_ix (kx_tup (K := K) rfl) (pv 0) pe_int (fun _ _ => rfl)) pa_nil)) (blkOk_by (N := N_steps_by_state) (sc := defScope s_steps_by_state) (by decide +kernel)) (fun _ _ _ _ _ => by exact (pg_name (i := 5) sc_steps_by_state.nd rfl (by first | exact Or.inl rfl | exact Or.inr rfl))) (fun _ _ _ _ _ => by exact pts_nil) (fun _ _ _ _ _ => by exact (pe_lst pa_nil)))
    (pss_cons (ps_for PassesOwn.never rfl (ki_tup (K := K) rfl (pe_ix (kx_tup (K := K) rfl) (pv 0) pe_int (fun _ _ => rfl))) (kg_tup (K := K) 3 rfl rfl (pgs_cons (pg_name (i := 2) sc_steps_by_state.nd rfl (by first | exact Or.inl rfl | exact Or.inr rfl)) (pgs_cons (pg_name (i := 3) sc_steps_by_state.nd rfl (by first | exact Or.inl rfl | exact Or.inr rfl)) (pgs_cons (pg_name (i := 4) sc_steps_by_state.nd rfl (by first | exact Or.inl rfl | exact Or.inr rfl)) pgs_nil))))
      (pss_one (ps_expr (ke_bm (K := K) rfl PySem.F.plainAttrs_list PySem.F.slot_list_append PySem.F.type_list_append mt_append (pe_ix (kx_list (K := K) rfl) (pv 1) (pv 2) (fun _ _ => rfl)) (pa_cons (pe_tup (pa_cons (pv 3) (pa_cons (pv 4) pa_nil))) pa_nil)))))
    (pss_one (ps_ret (pv 1))))), ?_⟩
    obtain ⟨a, x, y, z, rfl, ha, rfl, hends, hst⟩ := id hm
    obtain ⟨b, sts, rfl, hb, hsts⟩ := id hst
    have hfew := ok.few
    refine ⟨_, rfl, a, _, _, _, rfl, rfl, SqT.of ha, rfl, _, rfl, by omega, by omega, fun p hp => lc_range (MatC H p) (MatC.start hp) ?_ ?_⟩
    · intro i H' hi mc
      exact ⟨rfl, mc.go (by omega)⟩
    · intro H1 mc
      have e1 := mc.2.1
      obtain ⟨qs, M⟩ := mc.mat (r := rP rC rN) (Fx.refl [] H)
      refine ⟨_, rfl, a, _, _, _, rfl, rfl, SqT.of (e1.k ha), rfl, b, rfl, ⟨_, SqT.of (e1.k hb)⟩, for_tup (K := K) (a := b) (xs := sts) (fun i σ' H' => ∃ (o1 o2 o3 : Option V), σ' = [some (.ref a), some (.ref p), o1, o2, o3, none] ∧ Fe H H' ∧
        Mat (rP rC rN) H H' p qs (stepRows m.1 (m.2.2.take i)) ) ⟨none, none, none, rfl, e1, ?_⟩ (fun i σ' H' _ ⟨_, _, _, _, e, _⟩ => SqT.of (e.k hb)) ?_ ?_⟩
      · have : List.replicate (m.1 : Int).toNat ([] : List (Nat × Nat)) = stepRows m.1 (m.2.2.take 0) := by
          apply List.ext_getElem?
          intro i
          rw [Int.toNat_natCast, List.getElem?_replicate]
          split
          · rename_i h; rw [stepRows_at h]; rfl
          · rename_i h; rw [List.getElem?_eq_none (by rw [stepRows_len]; omega)]
        rw [← this]; exact M
      · rintro i x σ' H' hx ⟨o1, o2, o3, rfl, e, M⟩
        obtain ⟨s, hs, hxr⟩ := hsts.get hx
        obtain ⟨c, x, y, z, rfl, hc, rfl, rfl, rfl⟩ := id hxr
        have hsm : s ∈ m.2.2 := List.mem_of_getElem? hs
        obtain ⟨q, xs, hq, hqm, hqx, hal⟩ := M.get (stepRows_at (ok.st s hsm).1)
        refine ⟨c, _, rfl, SqT.of (e.k hc), rfl, _, _, rfl, _, _, rfl, _, _, rfl, rfl, ?_⟩
        have hxl : xs.length ≤ 100 := by
          rw [hal.len, List.length_map]
          have h1 := List.length_filter_le (fun u : Nat × Nat × Nat => u.1 == s.1) (m.2.2.take i)
          have h2 := ok.fewS
          rw [List.length_take] at h1
          omega
        refine ⟨_, rfl, _, rfl, p, _, _, .ref q, rfl, rfl, SqL.of M.at_, atI_nat (by rw [List.getElem?_map, hq]; rfl), .inl ⟨rfl, _, SqL.of hqx⟩, _, rfl, _, rfl, by show 2 ≤ sizeLine; decide, fun W hW => ?_⟩
        have fW : Fe H' (upd H' W (.tup [.str ⟨#[s.2.1]⟩, .int (s.2.2 : Int)])) := Fe.new hW
        refine ⟨q, xs, _, rfl, rfl, fW.k hqx, by rw [sizeLine_eq]; omega, ?_⟩
        have M2 := (M.fe fW).put (i := s.1) (v := .ref W) (x := s.2) hq (stepRows_at (ok.st s hsm).1) (fW.k hqx) (Al.mo fW hal) ⟨W, _, _, rfl, upd_same, rfl, rfl⟩
        refine ⟨_, _, _, rfl, (e.trans fW).mut (M.new q hqm), ?_⟩
        rw [stepRows_put (ok.st s hsm).1] at M2
        rw [List.take_add_one, hs]
        exact M2
      · rintro σ' H' ⟨o1, o2, o3, rfl, e, M⟩
        rw [hsts.len, List.take_of_length_le (Nat.le_refl _)] at M
        exact ⟨_, rfl, kk p H' qs e M⟩
/-! ### live_flags -/
/-- live states -/
def Live (m : Mach) (q : Nat) : Prop := Rch (stepRows m.1 m.2.2) [0] q ∧ Bch (stepRows m.1 m.2.2) m.2.1 q
def spLiveFlags : Sp := fun vs H Q _ => ∃ (m : Mach) (v1 : V), vs = [v1] ∧ rMach H v1 m ∧ MOk m ∧
  ∀ (v : V) (H' : Hp) (fl : List Bool), Fe H H' → rL rB H' v fl → fl.length = m.1 → (∀ n, fl[n]? = some true ↔ Live m n) → Q v H'
end
end Fm
/-! the least of a list of tuples of whole numbers -/
namespace Fm
open PySem PySem.Spec PyProof.Rows L2
/-- all of h0 stands in h -/
abbrev Ovr (h0 h : Heap) : Prop := ∀ b o, h0.get? b = some o → h.get? b = some o
section
variable {prog : Program} {w : World} {A : Around} {R : Result → Shared → Prop} {I S : Addr} {fp wr : List Addr} {n : Nat} {Pv : Nat → Value → Prop} {St : Nat → Heap → Prop} {h0 : Heap} {bt : Nat → Nat → Bool}
abbrev CmpH (prog : Program) (w : World) (A : Around) (h0 : Heap) (Pv : Nat → Value → Prop) (bt : Nat → Nat → Bool) : Prop :=
  ∀ i j a b (z : Shared) (Q : Value → Shared → Prop) (E : Value → Shared → Prop), Ovr h0 z.heap → Pv i a → Pv j b → Q (.bool (bt i j)) z → wpAny (model prog w) A (richCompare .Lt a b) Q E z
theorem ovr_upd {h : Heap} {f : Obj → Obj} (o : Ovr h0 h) (nS : h0.get? S = none) : Ovr h0 (h.update S f) := fun b x e =>
  (Heap.get?_update_other _ _ (fun q : S = b => by rw [← q, nS] at e; exact nomatch e)).trans (o b x e)
theorem ovr_wr {h h' : Heap} (o : Ovr h0 h) (nw : ∀ b ∈ wr, h0.get? b = none) (k : ∀ b x, b ∉ wr → h.get? b = some x → h'.get? b = some x) : Ovr h0 h' := fun b x e =>
  k b x (fun m => by rw [nw b m] at e; exact nomatch e) (o b x e)
theorem loopH (W : Walks prog w A.in1 I fp wr n Pv St) (cm : CmpH prog w A.in1 h0 Pv bt) (nw : ∀ b ∈ wr, h0.get? b = none) (nS : h0.get? S = none) (Sf : S ∉ fp) (k : Nat) :
    ∀ (j : Nat) (z : Shared) (vb : Value) (c : Nat), n - (j + 1) = k → j + 1 ≤ n → St (j + 1) z.heap → Pv (argBest bt j) vb → Ovr h0 z.heap → z.heap.get? S = some { cls := .type "list", dict := none, data := .seq #[vb, vb] c, slots := #[] } →
    (∀ v h' tk, Pv (argBest bt (n - 1)) v → Ovr h0 h' → R (.ok (.ret v)) { z with heap := h', toks := tk }) → codeAny (model prog w) A (.builtin "min.loop" ⟨[.ref I, .none, .ref S], []⟩) R z := by
  have Sw : S ∉ wr := fun q => Sf (W.sub _ q)
  have nm : (toString "min" ++ toString ".loop" : String) = "min.loop" := by decide
  induction k with
  | zero =>
    intro j z vb c hk hj st pb ov gS fin
    have e : j + 1 = n := by omega
    apply codeAny_builtin F.entry_min_loop; rw [Around.under_plainId F.plain_min_loop _]; show wpAny _ A.in1 (seqItems? (.ref S) >>= _) _ _ z
    refine wpAny_bind (wpAny_seqItems gS rfl (show wpAny _ A.in1 (tryCatch (pyNext (.ref I)) _ >>= _) _ _ z from wpAny_bind (wpAny_tryCatch (W.done z _ _ (e ▸ st) fun h' tk kk => ?_))))
    have gS' := kk S _ Sw gS
    exact show wpAny _ A.in1 (updateSeq S (fun _ => #[]) >>= _) _ _ _ from wpAny_bind (wpAny_updateSeq gS' rfl (wpAny_bind (wpAny_letGo (wpAny_pure (fin vb _ tk (by rw [← e]; exact pb) (ovr_upd (ovr_wr ov nw kk) nS))))))
  | succ k ih =>
    intro j z vb c hk hj st pb ov gS fin
    have lt : j + 1 < n := by omega
    apply codeAny_builtin F.entry_min_loop; rw [Around.under_plainId F.plain_min_loop _]; show wpAny _ A.in1 (seqItems? (.ref S) >>= _) _ _ z
    refine wpAny_bind (wpAny_seqItems gS rfl (show wpAny _ A.in1 (tryCatch (pyNext (.ref I)) _ >>= _) _ _ z from wpAny_bind (wpAny_tryCatch (W.item (j + 1) z _ _ lt st fun v h' tk pv st' kk => ?_))))
    have gS' := kk S _ Sw gS
    have ov' := ovr_wr ov nw kk
    refine show wpAny _ A.in1 (tryCatch (holding [v, v] (richCompare .Lt v vb >>= _)) _ >>= _) _ _ _ from wpAny_bind (wpAny_tryCatch (wpAny_holding (wpAny_bind (cm (j + 1) (argBest bt j) v vb _ _ _ ov' pv pb (wpAny_bind (wpAny_holding (wpAny_truthy_bool (wpAny_bind (wpAny_letGo (wpAny_pure ?_))))))))))
    cases hb : bt (j + 1) (argBest bt j) with
    | true =>
      simp only [if_true]
      refine wpAny_bind (wpAny_updateSeq gS' rfl (wpAny_bind (wpAny_letGo ?_)))
      rw [nm]
      exact wpAny_pure ⟨plainId_quiet F.plain_min_loop _, ih (j + 1) _ v _ (by omega) lt (W.frame _ _ _ st' fun b bf o e => (Heap.get?_update_other _ _ (fun q : S = b => Sf (q ▸ bf))).trans e) (by simp only [argBest, hb, if_true]; exact pv) (ovr_upd ov' nS) (Heap.get?_update_self _ gS' rfl)
        fun v' h2 t2 p2 o2 => fin v' h2 t2 p2 o2⟩
    | false =>
      simp only [Bool.false_eq_true, if_false]
      refine wpAny_bind (wpAny_letGo ?_)
      rw [nm]
      exact wpAny_pure ⟨plainId_quiet F.plain_min_loop _, ih (j + 1) _ vb c (by omega) lt st' (by simp only [argBest, hb, Bool.false_eq_true, if_false]; exact pb) ov' gS' fun v' h2 t2 p2 o2 => fin v' h2 t2 p2 o2⟩
theorem loopH0 (W : Walks prog w A.in1 I fp wr n Pv St) (cm : CmpH prog w A.in1 h0 Pv bt) (nw : ∀ b ∈ wr, h0.get? b = none) (nS : h0.get? S = none) (Sf : S ∉ fp) (hn : 0 < n) {z : Shared} {c : Nat} (st : St 0 z.heap) (ov : Ovr h0 z.heap)
    (gS : z.heap.get? S = some { cls := .type "list", dict := none, data := .seq #[] c, slots := #[] }) (fin : ∀ v h' tk, Pv (argBest bt (n - 1)) v → Ovr h0 h' → R (.ok (.ret v)) { z with heap := h', toks := tk }) :
    codeAny (model prog w) A (.builtin "min.loop" ⟨[.ref I, .none, .ref S], []⟩) R z := by
  have Sw : S ∉ wr := fun q => Sf (W.sub _ q)
  have nm : (toString "min" ++ toString ".loop" : String) = "min.loop" := by decide
  apply codeAny_builtin F.entry_min_loop; rw [Around.under_plainId F.plain_min_loop _]; show wpAny _ A.in1 (seqItems? (.ref S) >>= _) _ _ z
  refine wpAny_bind (wpAny_seqItems gS rfl (show wpAny _ A.in1 (tryCatch (pyNext (.ref I)) _ >>= _) _ _ z from wpAny_bind (wpAny_tryCatch (W.item 0 z _ _ hn st fun v h' tk pv st' kk => ?_))))
  have gS' := kk S _ Sw gS
  refine show wpAny _ A.in1 (updateSeq S (fun _ => #[v, v]) >>= _) _ _ _ from wpAny_bind (wpAny_updateSeq gS' rfl ?_)
  rw [nm]
  exact wpAny_pure ⟨plainId_quiet F.plain_min_loop _, loopH W cm nw nS Sf _ 0 _ v _ rfl hn (W.frame _ _ _ st' fun b bf o e => (Heap.get?_update_other _ _ (fun q : S = b => Sf (q ▸ bf))).trans e) pv (ovr_upd (ovr_wr ov nw kk) nS) (Heap.get?_update_self _ gS' rfl) fun v' h2 t2 p2 o2 => fin v' h2 t2 p2 o2⟩
end
section
variable {X : Cx} {K : PySem.W.Frag}
/-- min(xs), xs a list of tuples of whole numbers: one of them, none before it -/
def rMinT (K : PySem.W.Frag) : List V → Hp → VK → Prop := fun vs H Q => ∃ (a : Addr) (ts : List (Addr × List Int)), vs = [V.ref a] ∧ SqL K H a (ts.map fun t => V.ref t.1) ∧ (∀ t ∈ ts, SqT K H t.1 (t.2.map V.int)) ∧ 0 < ts.length ∧
  ∀ t, t ∈ ts → (∀ u ∈ ts, HT.lexLt u.2 t.2 = false) → Q (.ref t.1) H
theorem lex_tot : ∀ xs ys : List Int, HT.lexLt xs ys = false → HT.lexLt ys xs = false → xs = ys
  | [], [], _, _ => rfl
  | [], _ :: _, h, _ => nomatch h
  | _ :: _, [], _, h => nomatch h
  | x :: xs, y :: ys, h1, h2 => by
    rw [HT.lexLt_cons] at h1 h2
    by_cases e : x = y
    · rw [if_pos e] at h1
      rw [if_pos e.symm] at h2
      rw [e, lex_tot xs ys h1 h2]
    · rw [if_neg e] at h1
      rw [if_neg (fun q => e q.symm)] at h2
      have := of_decide_eq_false h1
      have := of_decide_eq_false h2
      omega
theorem lex_irr : ∀ xs : List Int, HT.lexLt xs xs = false
  | [] => rfl
  | x :: xs => by rw [HT.lexLt_cons, if_pos rfl]; exact lex_irr xs
theorem lex_trans : ∀ xs ys zs : List Int, HT.lexLt xs ys = true → HT.lexLt ys zs = true → HT.lexLt xs zs = true
  | [], [], _, h, _ => nomatch h
  | _ :: _, [], _, h, _ => nomatch h
  | _, _ :: _, [], _, h => nomatch h
  | [], _ :: _, _ :: _, _, _ => rfl
  | x :: xs, y :: ys, z :: zs, h1, h2 => by
    rw [HT.lexLt_cons] at h1 h2 ⊢
    by_cases e : x = y
    · rw [if_pos e] at h1
      subst e
      by_cases e2 : x = z
      · rw [if_pos e2] at h2 ⊢
        exact lex_trans xs ys zs h1 h2
      · rw [if_neg e2] at h2 ⊢
        exact h2
    · rw [if_neg e] at h1
      have h3 := of_decide_eq_true h1
      by_cases e2 : y = z
      · subst e2
        rw [if_neg e]; exact h1
      · rw [if_neg e2] at h2
        have h4 := of_decide_eq_true h2
        rw [if_neg (by omega)]
        exact decide_eq_true (by omega)
/-- the place that stays is of a least one -/
theorem argBest_lex (f : Nat → List Int) : ∀ n, argBest (fun i j => HT.lexLt (f i) (f j)) n ≤ n ∧ ∀ j, j ≤ n → HT.lexLt (f j) (f (argBest (fun i j => HT.lexLt (f i) (f j)) n)) = false
  | 0 => ⟨Nat.le_refl _, fun j hj => by
    have : j = 0 := by omega
    subst this; exact lex_irr _⟩
  | n + 1 => by
    obtain ⟨h1, h2⟩ := argBest_lex f n
    generalize hb : argBest (fun i j => HT.lexLt (f i) (f j)) n = b at h1 h2
    show (if HT.lexLt (f (n + 1)) (f (argBest (fun i j => HT.lexLt (f i) (f j)) n)) then n + 1 else argBest (fun i j => HT.lexLt (f i) (f j)) n) ≤ n + 1 ∧ ∀ j, j ≤ n + 1 → HT.lexLt (f j) (f (if HT.lexLt (f (n + 1)) (f (argBest (fun i j => HT.lexLt (f i) (f j)) n)) then n + 1 else argBest (fun i j => HT.lexLt (f i) (f j)) n)) = false
    rw [hb]
    cases q : HT.lexLt (f (n + 1)) (f b) with
    | true =>
      rw [if_pos rfl]
      refine ⟨Nat.le_refl _, fun j hj => ?_⟩
      by_cases e : j = n + 1
      · subst e; exact lex_irr _
      · cases r : HT.lexLt (f j) (f (n + 1)) with
        | false => rfl
        | true => have := lex_trans _ _ _ r q; rw [h2 j (by omega)] at this; exact this.symm
    | false =>
      rw [if_neg (fun z => nomatch z)]
      refine ⟨by omega, fun j hj => ?_⟩
      by_cases e : j = n + 1
      · subst e; exact q
      · exact h2 j (by omega)
theorem refs_ats : ∀ {ts : List (Addr × List Int)} {us : List Value}, Vals (ts.map fun t => V.ref t.1) us → us = ts.map fun t => Value.ref t.1
  | [], _, .nil => rfl
  | _ :: _, _, .cons h r => by cases h; rw [List.map_cons, ← refs_ats r]
theorem kc_minT (h : X.K = K) (hc : X.calm = true) (hu : X.A.units + 64 < cLine) : CallR X (.builtin "min") (rMinT K) := by
  subst h
  intro pins s σ H vs us Q I r h
  obtain ⟨a, ts, rfl, hl, ht, hne, q⟩ := h
  rw [Vals.ref1 r]
  obtain ⟨its, rv, pl, hz⟩ := I.list hl
  have hlist := pl.isList
  have e := refs_ats rv
  subst e
  have nm : (toString "min" ++ toString ".loop" : String) = "min.loop" := by decide
  have hlt : a < s.heap.objs.size := by obtain ⟨_, e, _⟩ := hlist; exact Heap.lt_size e
  have nI : s.heap.get? s.heap.objs.size = none := Heap.get?_none_of_le (Nat.le_refl _)
  apply call_function_tree F.kind_min F.plain_min F.entry_min (F.args_min1 _)
  refine show wpAny _ X.A.in1 (Builtin.Builtins.bindParams "min" ["key", "default"] 0 ⟨[], []⟩ >>= _) _ _ s from wpAny_bind (wpAny_of_eq (show Builtin.Builtins.bindParams "min" ["key", "default"] 0 ⟨[], []⟩ = pure [none, none] from rfl) (wpAny_bind (wpAny_pure (wpAny_bind (wpAny_pyIter_list hlist (wpAny_bind (wpAny_newObj_type ?_)))))))
  rw [nm]
  have hsz : (s.heap.push { cls := .type "list_iterator", data := .fields #[.ref a, .int 0 0] }).objs.size = s.heap.objs.size + 1 := Heap.size_push ..
  refine wpAny_pure ⟨plainId_quiet F.plain_min_loop _, loopH0 (h0 := s.heap) (bt := fun i j => HT.lexLt ((ts.map (·.2)).getD i []) ((ts.map (·.2)).getD j [])) (Walks.list (A := X.A.in1) (I.ok.hd hc) s.heap.objs.size a (Nat.ne_of_lt hlt) (ts.map fun t => Value.ref t.1).toArray) (fun i j u v z Q' E' ov hi hj hq => ?_) (fun b hb => ?_) ?_ ?_ ?_ ?_ ?_ (Heap.get?_push_size _ rfl) fun v h' tk hp ov => ?_⟩
  · obtain ⟨t1, h1, rfl⟩ : ∃ t, ts[i]? = some t ∧ Value.ref t.1 = u := by
      have hi' : (ts.map fun t => Value.ref t.1).toArray[i]? = some u := hi
      rw [List.getElem?_toArray, List.getElem?_map] at hi'
      obtain ⟨t, h1, h2⟩ := Option.map_eq_some_iff.mp hi'
      exact ⟨t, h1, h2⟩
    obtain ⟨t2, h2, rfl⟩ : ∃ t, ts[j]? = some t ∧ Value.ref t.1 = v := by
      have hj' : (ts.map fun t => Value.ref t.1).toArray[j]? = some v := hj
      rw [List.getElem?_toArray, List.getElem?_map] at hj'
      obtain ⟨t, h1, h2⟩ := Option.map_eq_some_iff.mp hj'
      exact ⟨t, h1, h2⟩
    obtain ⟨i1, r1, p1, _⟩ := I.tuple (ht t1 (List.mem_of_getElem? h1))
    obtain ⟨i2, r2, p2, _⟩ := I.tuple (ht t2 (List.mem_of_getElem? h2))
    obtain ⟨o1, a1, b1, n1, c1⟩ := p1
    obtain ⟨o2, a2, b2, n2, c2⟩ := p2
    refine HT.lt_tupInts (A := X.A.in1) ⟨o1, ov _ _ a1, b1, n1, c1⟩ ⟨o2, ov _ _ a2, b2, n2, c2⟩ (intsAre_of r1) (intsAre_of r2) (by show X.A.units + 1 < cLine; omega) ?_
    have e1 : (ts.map (·.2)).getD i [] = t1.2 := by rw [List.getD_eq_getElem?_getD, List.getElem?_map, h1]; rfl
    have e2 : (ts.map (·.2)).getD j [] = t2.2 := by rw [List.getD_eq_getElem?_getD, List.getElem?_map, h2]; rfl
    have hq' : Q' (.bool (HT.lexLt ((ts.map (·.2)).getD i []) ((ts.map (·.2)).getD j []))) z := hq
    rw [e1, e2] at hq'
    exact hq'
  · rw [List.mem_singleton.mp hb]; exact nI
  · exact Heap.get?_none_of_le (by rw [hsz]; omega)
  · intro m
    rw [hsz] at m
    rcases List.mem_cons.mp m with m | m
    · exact absurd m (Nat.succ_ne_self _)
    · have e := List.mem_singleton.mp m
      rw [← e] at hlt
      exact absurd hlt (Nat.not_lt.mpr (Nat.le_succ _))
  · show 0 < (ts.map fun t => Value.ref t.1).toArray.size
    rw [List.size_toArray, List.length_map]; exact hne
  · refine ⟨⟨_, Heap.get?_push_of_some _ (Heap.get?_push_size _ rfl), rfl, rfl⟩, (hlist.push _).push _⟩
  · exact fun b o e => Heap.get?_push_of_some _ (Heap.get?_push_of_some _ e)
  · have hn : (ts.map fun t => Value.ref t.1).toArray.size = ts.length := by rw [List.size_toArray, List.length_map]
    rw [hn] at hp
    obtain ⟨h1, h2⟩ := argBest_lex (fun i => (ts.map (·.2)).getD i []) (ts.length - 1)
    generalize argBest (fun i j => HT.lexLt ((ts.map (·.2)).getD i []) ((ts.map (·.2)).getD j [])) (ts.length - 1) = m at h1 h2 hp
    have hp' : (ts.map fun t => Value.ref t.1).toArray[m]? = some v := hp
    rw [List.getElem?_toArray, List.getElem?_map] at hp'
    obtain ⟨t, h3, rfl⟩ := Option.map_eq_some_iff.mp hp'
    refine ⟨.ref t.1, H, I.kept (t' := tk) ov, rfl, q t (List.mem_of_getElem? h3) fun u hu => ?_⟩
    obtain ⟨j, hj⟩ := List.mem_iff_getElem?.mp hu
    have hjl := (List.getElem?_eq_some_iff.mp hj).1
    have := h2 j (by omega)
    have e1 : (ts.map (·.2)).getD j [] = u.2 := by rw [List.getD_eq_getElem?_getD, List.getElem?_map, hj]; rfl
    have e2 : (ts.map (·.2)).getD m [] = t.2 := by rw [List.getD_eq_getElem?_getD, List.getElem?_map, h3]; rfl
    have this' : HT.lexLt ((ts.map (·.2)).getD j []) ((ts.map (·.2)).getD m []) = false := this
    rw [e1, e2] at this'
    exact this'
end
end Fm
/-! pairs of a cost and a place, told by one code each -/
namespace Fm
open PySem PySem.Spec PyProof.Rows L2
section
variable {X : Cx} {K : PySem.W.Frag}
theorem ko_ltT (h : X.K = K) (hu : X.A.units < cLine) : OpR X (compareOp .Lt) (rLtT K) := by subst h; exact op_ltT hu
/-- sorted(xs), xs a list of fewer than 64 triples of ints in [0, B), B any bound -/
def rSort3 (K : PySem.W.Frag) : List V → Hp → VK → Prop := fun vs H Q => ∃ B : Int, rSortU K 3 B vs H Q
theorem kc_sortT3 (h : X.K = K) : CallR X (.builtin "sorted") (rSort3 K) := by
  subst h
  intro pins s σ H vs us Q I r ⟨B, h⟩
  exact cr_sortT (B := B) (by decide) _ _ _ _ _ _ _ I r h
end
/-- the pair of the code e, n the text's length -/
abbrev dC (n e : Nat) : Nat := e / (n + 1)
abbrev dB (n e : Nat) : Nat := n - e % (n + 1)
abbrev cod (n c b : Nat) : Nat := c * (n + 1) + (n - b)
def pL (n e : Nat) : List Int := [((dC n e : Nat) : Int), -((dB n e : Nat) : Int)]
def rPr (n : Nat) : Rp Nat := fun H v e => ∃ u, v = .ref u ∧ H u = some (.tup ((pL n e).map V.int))
theorem dC_cod {n c b : Nat} (h : b ≤ n) : dC n (cod n c b) = c := by
  unfold dC cod
  rw [Nat.mul_comm, Nat.mul_add_div (by omega), Nat.div_eq_of_lt (by omega), Nat.add_zero]
theorem dB_cod {n c b : Nat} (h : b ≤ n) : dB n (cod n c b) = b := by
  unfold dB cod
  rw [Nat.mul_comm, Nat.mul_add_mod, Nat.mod_eq_of_lt (by omega)]
  omega
theorem cod_d (n e : Nat) : cod n (dC n e) (dB n e) = e := by
  unfold cod dC dB
  have h1 := Nat.mod_lt e (show 0 < n + 1 by omega)
  have h2 := Nat.div_add_mod e (n + 1)
  have h3 : n - (n - e % (n + 1)) = e % (n + 1) := by omega
  rw [h3, Nat.mul_comm]; exact h2
theorem dB_le (n e : Nat) : dB n e ≤ n := Nat.sub_le _ _
theorem cod_add (n e d : Nat) : cod n (dC n e + d) (dB n e) = e + d * (n + 1) := by
  have := cod_d n e
  unfold cod at this ⊢
  rw [Nat.add_mul]
  omega
theorem pL_cod {n c b : Nat} (h : b ≤ n) : pL n (cod n c b) = [(c : Int), -(b : Int)] := by
  unfold pL
  rw [dC_cod h, dB_cod h]
theorem pL_lt (n e f : Nat) : HT.lexLt (pL n e) (pL n f) = decide (e < f) := by
  have h1 := cod_d n e
  have h2 := cod_d n f
  have b1 := dB_le n e
  have b2 := dB_le n f
  unfold pL
  generalize dC n e = c at *
  generalize dC n f = c' at *
  generalize dB n e = b at *
  generalize dB n f = b' at *
  subst h1 h2
  unfold cod
  rw [HT.lexLt_cons]
  by_cases q : (c : Int) = c'
  · have q' : c = c' := Int.ofNat.inj q
    subst q'
    rw [if_pos rfl, HT.lexLt_cons]
    by_cases r : -(b : Int) = -(b' : Int)
    · have : b = b' := by omega
      subst this
      rw [if_pos rfl]
      simp [HT.lexLt_nil_nil]
    · rw [if_neg r]
      exact decide_eq_decide.mpr (by omega)
  · rw [if_neg q]
    refine decide_eq_decide.mpr ?_
    have q' : c ≠ c' := fun z => q (by rw [z])
    constructor
    · intro h
      have : c + 1 ≤ c' := by omega
      have := Nat.mul_le_mul_right (n + 1) this
      rw [Nat.add_mul] at this
      omega
    · intro h
      apply Decidable.byContradiction
      intro z
      have : c' + 1 ≤ c := by omega
      have := Nat.mul_le_mul_right (n + 1) this
      rw [Nat.add_mul] at this
      omega
theorem pL_inj {n e f : Nat} (h : pL n e = pL n f) : e = f := by
  have h1 := pL_lt n e f
  have h2 := pL_lt n f e
  rw [h] at h1 h2
  rw [lex_irr] at h1 h2
  have := of_decide_eq_false h1.symm
  have := of_decide_eq_false h2.symm
  omega
end Fm
/-! sorted lists of triples of naturals -/
namespace Fm
open PySem PySem.Spec PyProof.Rows L2
abbrev T3 := Nat × Nat × Nat
abbrev r3 : Rp T3 := rP3 rN rN rN
def le3 (x y : T3) : Prop := x.1 < y.1 ∨ (x.1 = y.1 ∧ (x.2.1 < y.2.1 ∨ (x.2.1 = y.2.1 ∧ x.2.2 ≤ y.2.2)))
theorem le3_anti {x y : T3} (h : le3 x y) (k : le3 y x) : x = y := by
  obtain ⟨a, b, c⟩ := x
  obtain ⟨a', b', c'⟩ := y
  unfold le3 at h k
  simp only at h k
  have e1 : a = a' := by omega
  have e2 : b = b' := by omega
  have e3 : c = c' := by omega
  rw [e1, e2, e3]
theorem srt3_eq {l m : List T3} (h : l.Perm m) (a : l.Pairwise le3) (b : m.Pairwise le3) : l = m :=
  List.Perm.eq_of_pairwise (fun _ _ _ _ x y => le3_anti x y) a b h
theorem code3 (B x y z : Int) : TS.code B [x, y, z] = (x * B + y) * B + z := by
  show x * B ^ 2 + (y * B ^ 1 + (z * B ^ 0 + 0)) = _
  have e1 : B ^ 2 = B * B := by rw [show (2 : Nat) = 1 + 1 from rfl, Int.pow_succ, Int.pow_succ, Int.pow_zero, Int.one_mul]
  have e2 : B ^ 1 = B := by rw [Int.pow_succ, Int.pow_zero, Int.one_mul]
  rw [e1, e2, Int.pow_zero, Int.mul_one, Int.add_zero, Int.add_mul, Int.mul_assoc, Int.add_assoc]
theorem dig_lt {B p q r s : Int} (hr : 0 ≤ r) (hs : s < B) (h : p * B + r ≤ q * B + s) (hB : 0 < B) : p ≤ q := by
  apply Int.not_lt.mp
  intro z
  have h1 : (q + 1) * B ≤ p * B := Int.mul_le_mul_of_nonneg_right (by omega) (by omega)
  rw [Int.add_mul, Int.one_mul] at h1
  omega
theorem le3_code {B : Int} {x y : T3} (hx : (x.1 : Int) < B ∧ (x.2.1 : Int) < B ∧ (x.2.2 : Int) < B) (hy : (y.1 : Int) < B ∧ (y.2.1 : Int) < B ∧ (y.2.2 : Int) < B)
    (h : TS.code B [(x.1 : Int), (x.2.1 : Int), (x.2.2 : Int)] ≤ TS.code B [(y.1 : Int), (y.2.1 : Int), (y.2.2 : Int)]) : le3 x y := by
  obtain ⟨a, b, c⟩ := x
  obtain ⟨a', b', c'⟩ := y
  simp only at hx hy h
  rw [code3, code3] at h
  have hB : 0 < B := by omega
  have h1 := dig_lt (by omega) hy.2.2 h hB
  have h2 := dig_lt (by omega) hy.2.1 h1 hB
  unfold le3
  simp only
  by_cases e1 : a = a'
  · subst e1
    refine .inr ⟨rfl, ?_⟩
    by_cases e2 : b = b'
    · subst e2
      exact .inr ⟨rfl, by omega⟩
    · exact .inl (by omega)
  · exact .inl (by omega)
theorem al_perm {α : Type} {r : Rp α} {H : Hp} {xs ys : List V} (p : ys.Perm xs) : ∀ {l : List α}, Al r H xs l → ∃ l', l'.Perm l ∧ Al r H ys l' := by
  have q := p.symm
  clear p
  induction q with
  | nil => intro l h; cases h; exact ⟨[], .nil, .nil⟩
  | cons x _ ih =>
    intro l h
    cases h with
    | cons h t =>
      obtain ⟨l', p, a⟩ := ih t
      exact ⟨_ :: l', p.cons _, .cons h a⟩
  | swap x y l0 =>
    intro l h
    cases h with
    | cons h t =>
      cases t with
      | cons h2 t => exact ⟨_, .swap _ _ _, .cons h2 (.cons h t)⟩
  | trans _ _ i1 i2 =>
    intro l h
    obtain ⟨l1, p1, a1⟩ := i1 h
    obtain ⟨l2, p2, a2⟩ := i2 a1
    exact ⟨l2, p2.trans p1, a2⟩
theorem al_pw {α : Type} {r : Rp α} {H : Hp} {R : V → V → Prop} {S : α → α → Prop} (f : ∀ x y a b, r H x a → r H y b → R x y → S a b) : ∀ {xs : List V} {l : List α}, Al r H xs l → xs.Pairwise R → l.Pairwise S
  | _, _, .nil, _ => .nil
  | _, _, .cons h t, w => by
    obtain ⟨w1, w2⟩ := List.pairwise_cons.mp w
    refine List.pairwise_cons.mpr ⟨fun b hb => ?_, al_pw f t w2⟩
    obtain ⟨i, hi⟩ := List.mem_iff_getElem?.mp hb
    obtain ⟨y, hy, hr⟩ := Al.at t hi
    exact f _ _ _ _ h hr (w1 y (List.mem_of_getElem? hy))
theorem al_mem {α : Type} {r : Rp α} {H : Hp} {xs : List V} {l : List α} (h : Al r H xs l) {x : V} (m : x ∈ xs) : ∃ a ∈ l, r H x a := by
  obtain ⟨i, hi⟩ := List.mem_iff_getElem?.mp m
  obtain ⟨a, ha, hr⟩ := h.get hi
  exact ⟨a, List.mem_of_getElem? ha, hr⟩
section
variable {K : PySem.W.Frag}
theorem tupI_r3 {H : Hp} {x : V} {a : T3} (h : r3 H x a) : TupI K H x [(a.1 : Int), (a.2.1 : Int), (a.2.2 : Int)] := by
  obtain ⟨u, x1, x2, x3, rfl, hu, rfl, rfl, rfl⟩ := h
  exact ⟨u, rfl, SqT.of hu⟩
theorem t3_max (l : List T3) : ∃ B : Nat, ∀ x ∈ l, x.1 < B ∧ x.2.1 < B ∧ x.2.2 < B := by
  induction l with
  | nil => exact ⟨0, fun _ h => nomatch h⟩
  | cons a l ih =>
    obtain ⟨B, hB⟩ := ih
    refine ⟨B + a.1 + a.2.1 + a.2.2 + 1, fun x h => ?_⟩
    rcases List.mem_cons.mp h with rfl | h
    · omega
    · have := hB x h; omega
theorem sort3_by {a : Addr} {xs : List V} {l : List T3} {H : Hp} {Q : VK} (ha : SqL K H a xs) (al : Al r3 H xs l) (h64 : l.length < 64)
    (k : ∀ (ys : List V) (l' : List T3) (p : Addr), Al r3 H ys l' → l'.Perm l → l'.Pairwise le3 → H p = none → Q (.ref p) (upd H p (.lst ys))) : rSort3 K [.ref a] H Q := by
  obtain ⟨B, hB⟩ := t3_max l
  have bd : ∀ {x : V} {t : T3}, r3 H x t → t ∈ l → TupI K H x [(t.1 : Int), (t.2.1 : Int), (t.2.2 : Int)] ∧ TS.Bd (B : Int) [(t.1 : Int), (t.2.1 : Int), (t.2.2 : Int)] := by
    intro x t h m
    have := hB t m
    refine ⟨tupI_r3 h, fun n hn => ?_⟩
    simp only [List.mem_cons, List.not_mem_nil, or_false] at hn
    rcases hn with rfl | rfl | rfl <;> omega
  refine ⟨B, a, xs, rfl, ha, by rw [al.len]; exact h64, fun x hx => ?_, fun ys p pm pw hp => ?_⟩
  · obtain ⟨t, ht, hr⟩ := al_mem al hx
    exact ⟨_, (bd hr ht).1, rfl, (bd hr ht).2⟩
  · obtain ⟨l', p1, a1⟩ := al_perm pm al
    refine k ys l' p a1 p1 ?_ hp
    have key : ∀ {xs : List V} {m : List T3}, Al r3 H xs m → (∀ t ∈ m, t ∈ l) → xs.Pairwise (fun x y => ∀ n m, TupI K H x n → TupI K H y m → TS.code B n ≤ TS.code B m) → m.Pairwise le3 := by
      intro xs m h
      induction h with
      | nil => exact fun _ _ => .nil
      | @cons x t xs m h1 h2 ih =>
        intro hm w
        obtain ⟨w1, w2⟩ := List.pairwise_cons.mp w
        refine List.pairwise_cons.mpr ⟨fun b hb => ?_, ih (fun t ht => hm t (List.mem_cons_of_mem _ ht)) w2⟩
        obtain ⟨i, hi⟩ := List.mem_iff_getElem?.mp hb
        obtain ⟨y, hy, hr⟩ := Al.at h2 hi
        have q1 := hB t (hm t List.mem_cons_self)
        have q2 := hB b (hm b (List.mem_cons_of_mem _ hb))
        exact le3_code (B := B) ⟨by omega, by omega, by omega⟩ ⟨by omega, by omega, by omega⟩ (w1 y (List.mem_of_getElem? hy) _ _ (tupI_r3 h1) (tupI_r3 hr))
    exact key a1 (fun t ht => p1.mem_iff.mp ht) pw
end
end Fm
/-! a letter, some times over; a pair out of a list -/
namespace Fm
open PySem PySem.Spec PyProof.Rows L2
theorem appR {α : Type} {l a b : List α} (h : a = b) : l ++ a = l ++ b := h ▸ rfl
theorem kg_unl {X : Cx} {K : PySem.W.Frag} {es : List Expr} {tgs : TGs} {k : Nat} {pos : Pos} (n : Nat) (h : X.K = K) (hc : X.calm = true) (hs : PGs X es tgs) (hn : (assignEach es X.env).length = n := by rfl) (hst : (assignEach es X.env).findIdx? (·.1) = none := by rfl) :
    PG X (.Tuple es k pos) (gUnl K n tgs) := by
  subst h
  exact pg_unl hc hs hn hst
def rRepC : R2 := fun x y H Q => ∃ (c k : Nat), x = .str ⟨#[c]⟩ ∧ y = .int (k : Int) ∧ k ≤ 1000000 ∧ Q (.str ⟨(List.replicate k c).toArray⟩) H
theorem str_of_list {x : Str} {l : List Nat} (h : x.cps.toList = l) : x = ⟨l.toArray⟩ := by
  cases x
  subst h
  simp
theorem op_repC {X : Cx} : OpR X (binaryOp .Mult) rRepC := by
  intro pins s σ H x y v u Q I rx ry h
  obtain ⟨c, k, rfl, rfl, hk, q⟩ := h
  obtain ⟨t, rfl⟩ := rx
  obtain ⟨t', rfl⟩ := ry
  have e : Txt.mul ⟨#[c]⟩ (k : Int) = ⟨(List.replicate k c).toArray⟩ := str_of_list (by rw [mul_one_list, Int.toNat_natCast])
  have ok : MulOk ⟨#[c]⟩ (k : Int) := by
    refine ⟨?_, fun h1 h2 => ?_, fun h1 h2 => ?_⟩
    · rw [Bool.or_eq_false_iff]
      exact ⟨decide_eq_false (by omega), decide_eq_false (by omega)⟩
    · show ¬ ((1 : Int) > (2 ^ 63 - 1) / (k : Int))
      have : (1 : Int) ≤ (2 ^ 63 - 1) / (k : Int) := by
        rw [Int.le_ediv_iff_mul_le (by omega)]
        omega
      omega
    · show PySem.Builtin.Str.tooLong (1 * ((k : Nat) : Int).toNat) = false
      rw [Int.toNat_natCast, Nat.one_mul]
      unfold PySem.Builtin.Str.tooLong
      exact decide_eq_false (by rw [sizeLine_eq]; omega)
  refine SB.mul ok fun t2 tk => ?_
  rw [e]
  exact ⟨.str ⟨(List.replicate k c).toArray⟩, H, I.tok _, ⟨t2, rfl⟩, q⟩
end Fm
/-! sets of texts, by the list of what is in them -/
namespace Fm
open PySem PySem.Spec PyProof.Rows L2
def kyS (e : Int × Value) : Str := match e.2 with
  | .str k _ => k
  | _ => Str.empty
section
variable {P : Program} {w : World} {A : Around} {E : Value → Shared → Prop} {s : Shared} {a : Addr} {l : List Str}
def SetX (P : Program) (w : World) (h : Heap) (a : Addr) (l : List Str) : Prop :=
  ∃ (o : Obj) (es : Array (Int × Value)) (ep : Nat) (t : SetTable), (h.get? a = some o ∧ o.ExactSet ∧ o.data = .set es ep t) ∧ ElemsOf (PySem.strKind P w) es.toList ∧ ((es.toList.map kyS).Perm l ∧ l.Nodup) ∧
    (l.length < scanBound ∧ t.fits es.size = true) ∧ Ris t.place.toList ∧ (w.params.followText "set-order" = true ∨ t.led = true)
theorem el_str {L : List (Int × Value)} (h : ElemsOf (PySem.strKind P w) L) {e : Int × Value} (m : e ∈ L) : ∃ u, e.2 = Value.str (kyS e) u := by
  obtain ⟨⟨k, hk, _⟩, _⟩ := h e m
  obtain ⟨i, v⟩ := e
  have hk : Value.isStrOf k v = true := hk
  cases v <;> first | exact ⟨_, rfl⟩ | cases hk
theorem is_kyS {L : List (Int × Value)} (h : ElemsOf (PySem.strKind P w) L) {e : Int × Value} (m : e ∈ L) (k : Str) : (PySem.strKind P w).is k e.2 = true ↔ kyS e = k := by
  obtain ⟨u, hu⟩ := el_str h m
  rw [hu]
  show Value.isStrOf k (.str (kyS e) u) = true ↔ _
  simp only [Value.isStrOf, beq_iff_eq]
theorem SetX.at {h h' : Heap} (R : SetX P w h a l) (k : ∀ o, h.get? a = some o → h'.get? a = some o) : SetX P w h' a l := by
  obtain ⟨o, es, ep, t, ⟨g1, g2⟩, r⟩ := R
  exact ⟨o, es, ep, t, ⟨k _ g1, g2⟩, r⟩
/-- the table laid anew, if it is full -/
theorem setX_tail {f : Bool → Sem Unit} (hf : ∀ (b : Bool) (z : Shared) (Q : Unit → Shared → Prop), Q () z → wpAny (model P w) A (f b) Q E z) {o : Obj} {es : Array (Int × Value)} {ep : Nat} {t : SetTable}
    (ho : s.heap.get? a = some o) (hx : o.ExactSet) (hd : o.data = .set es ep t) {fs : Array (Int × Value)} {u : SetTable} (el : ElemsOf (PySem.strKind P w) fs.toList) (pm : (fs.toList.map kyS).Perm l) (nd : l.Nodup)
    (hl : l.length < scanBound) (hu : u.fits fs.size = true) (hr : Ris u.place.toList) (hw : w.params.followText "set-order" = true ∨ u.led = true) {old : Bool} {R : Option Bool → Shared → Prop}
    (hR : ∀ h', Heap.SameBut a s.heap h' → SetX P w h' a l → R (some true) { s with heap := h' }) :
    wpAny (model P w) A (do
      storeSet a fs u
      if (!old && u.tooFull) = true then do
        f (relayAll u fs (SetTable.grown fs.size)).2.2
        storeSet a (relayAll u fs (SetTable.grown fs.size)).1 (relayAll u fs (SetTable.grown fs.size)).2.1
        pure (some true)
      else pure (some true)) R E s := by
  have hsz : fs.size = l.length := by rw [← Array.length_toList, ← pm.length_eq, List.length_map]
  have hb : fs.size < scanBound := by omega
  have st1 := store_at (es' := fs) (t' := u) ho hd
  have sm1 := Heap.SameBut.update s.heap a (Obj.putSet fs u)
  refine wpAny_bind (wpAny_storeSet_of ho hd ?_ (fits_of_scanBound hb))
  by_cases c : (!old && u.tooFull) = true
  · rw [if_pos c]
    have q1 := relayAll_perm u fs (SetTable.grown fs.size)
    have q2 := relayAll_fits u fs (SetTable.grown fs.size)
    have q3 := relayAll_ris u fs (SetTable.grown fs.size)
    have q4 := relayAll_led u fs (SetTable.grown fs.size)
    generalize relayAll u fs (SetTable.grown fs.size) = Z at q1 q2 q3 q4 ⊢
    obtain ⟨gs, v, gave⟩ := Z
    have q1 : gs.toList.Perm fs.toList := q1
    have hz : gs.size = fs.size := by rw [← Array.length_toList, q1.length_eq, Array.length_toList]
    refine wpAny_bind (hf _ _ _ (wpAny_bind (wpAny_storeSet_of st1 rfl ?_ (fits_of_scanBound (by show gs.size < _; omega)))))
    have st2 := store_at (es' := gs) (t' := v) st1 rfl
    refine wpAny_pure (hR _ (sm1.trans (Heap.SameBut.update _ a _)) ⟨_, gs, _, v, ⟨st2, hx, rfl⟩, el.perm q1, ⟨(q1.map kyS).trans pm, nd⟩, ⟨hl, q2⟩, q3, ?_⟩)
    exact hw.imp id fun z => q4.trans z
  · rw [if_neg c]
    exact wpAny_pure (hR _ sm1 ⟨_, fs, _, u, ⟨st1, hx, rfl⟩, el, ⟨pm, nd⟩, ⟨hl, hu⟩, hr, hw⟩)
theorem setX_add {k : Str} {u : Tok} {Q : Bool → Shared → Prop} (R : SetX P w s.heap a l) (room : l.length + 1 < scanBound) (h1 : k ∈ l → Q false s)
    (h2 : k ∉ l → ∀ h', Heap.SameBut a s.heap h' → SetX P w h' a (k :: l) → Q true { s with heap := h' }) : wpAny (model P w) A (setAddHashed a (.str k u) ((PySem.strKind P w).hash k)) Q E s := by
  obtain ⟨o, es, ep, t, ⟨ho, hx, hd⟩, el, ⟨pm, nd⟩, ⟨hl, hf⟩, hr, hw⟩ := R
  have hsz : es.size = l.length := by rw [← Array.length_toList, ← pm.length_eq, List.length_map]
  have hb : es.size < scanBound := by omega
  have key : (PySem.strKind P w).is k (.str k u) = true := strKind_is P w k u
  unfold setAddHashed setAddHashedIn
  refine wpAny_holding (wpAny_bind (wpAny_setState_of ho hd hf ?_))
  dsimp only
  rw [byScan_of (show (Value.str k u).scannable = true from rfl) hb el, if_pos rfl]
  unfold setAddByScan
  refine wpAny_bind (wpAny_bind (wpAny_rule (wpAny_bind (wpAny_setScan_of key ho hd hf el ?_))))
  cases hi : List.findIdx? (fun e => (PySem.strKind P w).is k e.2) es.toList with
  | some j =>
    obtain ⟨hj, pj, _⟩ := List.findIdx?_eq_some_iff_getElem.mp hi
    have hk : k ∈ l := pm.mem_iff.mp (List.mem_map.mpr ⟨_, List.getElem_mem hj, (is_kyS el (List.getElem_mem hj) k).mp pj⟩)
    exact wpAny_pure (wpAny_pure (h1 hk))
  | none =>
    have hk : k ∉ l := fun z => by
      obtain ⟨e, he, q⟩ := List.mem_map.mp (pm.mem_iff.mpr z)
      have c := List.findIdx?_eq_none_iff.mp hi e he
      rw [(is_kyS el he k).mpr q] at c
      cases c
    have gw : ∀ (b : Bool) {z : Shared} {R' : Unit → Shared → Prop}, R' () z → wpAny (model P w) A (match b with | true => rule "set.scan.the-table-gave-way" | false => pure ()) R' E z := fun b z R' q => by
      cases b
      · exact wpAny_pure q
      · exact wpAny_rule q
    have p1 := layNew_perm t es ((PySem.strKind P w).hash k) (.str k u)
    have p2 := layNew_fits t es ((PySem.strKind P w).hash k) (.str k u)
    have p3 := layNew_ris t es ((PySem.strKind P w).hash k) (.str k u) hr
    have p4 := layNew_led t es ((PySem.strKind P w).hash k) (.str k u)
    dsimp only
    generalize layNew t es ((PySem.strKind P w).hash k) (.str k u) = Z at p1 p2 p3 p4 ⊢
    obtain ⟨fs, t1, old, gave⟩ := Z
    dsimp only at p1 p2 p3 p4 ⊢
    rw [Array.toList_push] at p1
    have pc := p1.trans (List.perm_append_singleton ((PySem.strKind P w).hash k, Value.str k u) es.toList)
    have el1 : ElemsOf (PySem.strKind P w) fs.toList := fun e he => by
      rcases List.mem_cons.mp (pc.mem_iff.mp he) with rfl | z
      · exact ⟨⟨k, key, rfl⟩, rfl⟩
      · exact el e z
    have pk : (fs.toList.map kyS).Perm (k :: l) := (pc.map kyS).trans (pm.cons k)
    have nk : (k :: l).Nodup := List.nodup_cons.mpr ⟨hk, nd⟩
    have wl : w.params.followText "set-order" = true ∨ t1.led = true := hw.imp id fun z => p4.trans z
    refine wpAny_bind (gw _ ?_)
    by_cases c : t1.plain = true
    · rw [if_pos c]
      refine wpAny_bind ?_
      rw [hashByValue_scannable 8 (x := Value.str k u) rfl]
      refine wpAny_pure (setX_tail (fun b z R' q => gw b q) ho hx hd el1 pk nk room ?_ ?_ ?_ fun h' sb r => wpAny_pure (h2 hk h' sb r))
      · first | exact p2 | exact SetTable.fits_plain_off p2
      · exact p3
      · exact wl
    · rw [if_neg c]
      refine wpAny_bind (wpAny_pure ?_)
      exact setX_tail (fun b z R' q => gw b q) ho hx hd el1 pk nk room p2 p3 wl fun h' sb r => wpAny_pure (h2 hk h' sb r)
end
end Fm
/-! set(texts), sorted(set of texts) -/
namespace Fm
open PySem PySem.Spec PyProof.Rows L2
section
variable {P : Program} {w : World} {A : Around} {s : Shared}
theorem setX_bare {h : Heap} {a : Addr} (e : h.get? a = some (bareSet w)) : SetX P w h a [] :=
  ⟨_, #[], 0, _, ⟨e, ⟨rfl, rfl, rfl⟩, rfl⟩, fun x hx => (by cases hx), ⟨.nil, List.nodup_nil⟩, ⟨by decide, rfl⟩, List.Pairwise.nil, by
    show _ ∨ (!w.params.followText "set-order") = true
    cases w.params.followText "set-order"
    · exact .inr rfl
    · exact .inl rfl⟩
theorem adds_strs {S : Addr} {h0 : Heap} {items : Array Value} {ks : List Str} (hit : ∀ (i : Nat) (v : Value), items[i]? = some v → ∃ k tk, v = Value.str k tk ∧ ks[i]? = some k) (hfew : items.size < 1000) :
    Adds P w A S h0 items.size (fun i v => items[i]? = some v) fun i h => ∃ l, SetX P w h S l ∧ (∀ k, k ∈ l ↔ k ∈ ks.take i) ∧ l.length ≤ i where
  still := fun {i h h'} ⟨l, R, m⟩ k _ => ⟨l, R.at k, m⟩
  add := by
    intro i v s E Q hi hv hI kp hQ
    obtain ⟨l, R, hm, hl⟩ := hI
    obtain ⟨k, tk, rfl, hk⟩ := hit i v hv
    have ht : ∀ z, z ∈ ks.take (i + 1) ↔ z ∈ ks.take i ∨ z = k := fun z => by rw [List.take_add_one, hk, List.mem_append]; simp
    unfold setAdd
    refine wpAny_holding ?_
    refine wpAny_bind ((PySem.strKind P w).pyHash (strKind_is P w k tk) ?_)
    refine setX_add (s := { s with toks := s.toks + 1 }) R (by unfold scanBound; omega) (fun hin => ?_) (fun hnot h' sb R' => ?_)
    · refine hQ _ s.heap _ (Heap.SameBut.refl S s.heap) ⟨l, R, fun z => ?_, by omega⟩ (Nat.le_succ _)
      rw [ht z, ← hm z]
      exact ⟨.inl, fun q => q.elim id fun e => e ▸ hin⟩
    · refine hQ _ h' _ sb ⟨k :: l, R', fun z => ?_, by rw [List.length_cons]; omega⟩ (Nat.le_succ _)
      rw [ht z, ← hm z, List.mem_cons]
      exact ⟨fun q => q.elim .inr .inl, fun q => q.elim .inr .inl⟩
end
def SetXO (P : Program) (w : World) (a : Addr) (l : List Str) : HO := .ext fun h => SetX P w h a l
theorem setXO_new {P : Program} {w : World} {H : Hp} {h : Heap} {a : Addr} {l : List Str} (R : SetX P w h a l) : ObjOk P w H h a (SetXO P w a l) := by
  have ⟨o, _, _, _, ⟨ho, _⟩, _⟩ := R
  exact ⟨R, ⟨o, ho⟩, fun h1 h2 p k => by
    obtain ⟨o, es, ep, t, ⟨g1, g2⟩, r⟩ := p
    exact ⟨o, es, ep, t, ⟨k _ g1, g2⟩, r⟩⟩
section
variable {X : Cx} {K : PySem.W.Frag} {P : Program} {w : World}
/-- set(xs), xs a list of texts -/
def rSetS (K : PySem.W.Frag) (P : Program) (w : World) : List V → Hp → VK → Prop := fun xs H Q => ∃ (l : Addr) (ks : List Str), xs = [V.ref l] ∧ SqL K H l (ks.map V.str) ∧ ks.length < 1000 ∧
  ∀ (a : Addr) (L : List Str), H a = none → L.Nodup → (∀ k, k ∈ L ↔ k ∈ ks) → Q (.ref a) (upd H a (SetXO P w a L))
theorem strs_at {its : List Value} {ks : List Str} (rv : Vals (ks.map V.str) its) : ∀ (i : Nat) (v : Value), its.toArray[i]? = some v → ∃ k tk, v = Value.str k tk ∧ ks[i]? = some k := by
  generalize hm : ks.map V.str = ms at rv
  induction rv generalizing ks with
  | nil => intro i v e; rw [List.getElem?_toArray] at e; cases e
  | cons h1 _ ih =>
    intro i v e
    rw [List.getElem?_toArray] at e
    cases ks with
    | nil => cases hm
    | cons n ns =>
      rw [List.map_cons] at hm
      injection hm with h2 h3
      subst h2
      cases i with
      | zero =>
        cases e
        obtain ⟨t, ht⟩ := h1
        exact ⟨n, t, ht, rfl⟩
      | succ i =>
        obtain ⟨k, tk, e1, e2⟩ := ih h3 i v (by rw [List.getElem?_toArray]; exact e)
        exact ⟨k, tk, e1, e2⟩
theorem kc_setS (h : X.K = K) (hP : X.prog = P) (hw : X.w = w) (hc : X.calm = true) : CallR X (.type "set") (rSetS K P w) := by
  subst h hP hw
  intro pins s σ H xs us Q I r h
  obtain ⟨l, ks, rfl, hl, hf, q⟩ := h
  rw [Vals.ref1 r]
  obtain ⟨its, rv, pl, hz⟩ := I.list hl
  have hsz : its.toArray.size = ks.length := by rw [List.size_toArray, ← rv.length, List.length_map]
  have hn : H s.heap.objs.size = none := I.hok.fresh (Nat.le_refl _)
  refine call_set_gen (w := X.w) (Iv := fun i h => ∃ L, SetX X.prog X.w h s.heap.objs.size L ∧ (∀ k, k ∈ L ↔ k ∈ ks.take i) ∧ L.length ≤ i) (I.ok.hd hc) pl.isList (fun A' _ _ => adds_strs (strs_at rv) (by omega)) (fun h e _ => ⟨[], setX_bare e, fun k => by simp, Nat.le_refl _⟩) fun h' tk ⟨L, R, hm, _⟩ kp => ?_
  rw [hsz, List.take_length] at hm
  have nd : L.Nodup := by
    obtain ⟨_, _, _, _, _, _, ⟨_, n⟩, _⟩ := R
    exact n
  exact ⟨.ref s.heap.objs.size, _, I.laid (t' := tk) kp (Nat.le_refl _) (setXO_new R), rfl, q _ L hn nd hm⟩
/-- sorted(set of texts) -/
def rSortedSetS (P : Program) (w : World) : List V → Hp → VK → Prop := fun vs H Q => ∃ (a : Addr) (L : List Str), vs = [V.ref a] ∧ H a = some (SetXO P w a L) ∧ L.length < 64 ∧
  ∀ (ys : List Str) (p : Addr), ys.Perm L → sortedS ys = true → H p = none → Q (.ref p) (upd H p (.lst (ys.map V.str)))
theorem kc_sortedSetS (hP : X.prog = P) (hw : X.w = w) (hc : X.calm = true) : CallR X (.builtin "sorted") (rSortedSetS P w) := by
  subst hP hw
  intro pins s σ H vs us Q I r h
  obtain ⟨a, L, rfl, ha, h64, q⟩ := h
  obtain ⟨o, es, ep, t, ⟨ho, hx, hd⟩, el, ⟨pm, nd⟩, ⟨hl, hf⟩, hr, hw⟩ : SetX X.prog X.w s.heap a L := (I.hok a _ ha).1
  have hez : es.size = L.length := by rw [← Array.length_toList, ← pm.length_eq, List.length_map]
  rw [Vals.ref1 r]
  refine Calls.call_function_entry kind_sorted plain_sorted entry_sorted (args_sorted1 _) ?_
  unfold Builtin.«sorted»
  refine wpAny_bind (m := checkCount "sorted" 1 1 _) (wpAny_pure (wpAny_bind (collect_set (A := X.A.in1) (I.ok.hd hc) ⟨o, ho, hx.1, hd⟩ hf (by omega) hr hw fun z vs k1 hz g1 o1 pv => ?_)))
  have hvl : vs.length = L.length := by rw [pv.length_eq, List.length_map, Array.length_toList, hez]
  have hst : ∀ {us : List Value}, (∀ v ∈ us, ∃ k u, v = Value.str k u) → StrsAre us (us.map strOf) := by
    intro us
    induction us with
    | nil => exact fun _ => .nil
    | cons v us ih =>
      intro hv
      obtain ⟨k, u, rfl⟩ := hv v List.mem_cons_self
      exact .cons k u (ih fun x hx => hv x (List.mem_cons_of_mem _ hx))
  have hS : StrsAre vs (vs.map strOf) := hst fun v hv => by
    obtain ⟨e, he, rfl⟩ := List.mem_map.mp (pv.mem_iff.mp hv)
    obtain ⟨u, hu⟩ := el_str el he
    exact ⟨_, u, hu⟩
  have pk : (vs.map strOf).Perm L := by
    have q1 := pv.map strOf
    rw [List.map_map] at q1
    refine (q1.trans ?_).trans pm
    rw [List.map_congr_left (g := kyS) fun e he => ?_]
    obtain ⟨u, hu⟩ := el_str el he
    show strOf e.2 = kyS e
    rw [hu]
    rfl
  refine wpAny_bind (wpAny_newList ?_ (by rw [hvl, sizeLine_eq]; omega))
  have hoL : (z.heap.push (seqObj "list" vs.toArray 0)).get? z.heap.objs.size = some (seqObj "list" vs.toArray 0) := Heap.get?_push_size _ rfl
  refine wpAny_bind (wpAny_holding (wpAny_call_entry PyProof.Rows.slot_list_sort ⟨_, hoL, rfl⟩ PyProof.Rows.entry_list_sort
    (list_sort_treeK strKind_oneLt hoL hS.keysOf (fun v₁ v₂ rest e => keyKind_strs (by rw [← e]; exact hS)) (by rw [hvl]; exact h64) fun st' hp hs => ⟨_, rfl, ?_⟩) (PyProof.Rows.args_list_sort _)))
  obtain ⟨ys, b1, b2, b3⟩ := sorted_out_str hS hp hs
  obtain ⟨c, hc'⟩ := PyProof.Rows.sortedHeap_at (vs := vs) (out := (arrOf st').map (·.2)) hoL
  have hlen : (ys.map V.str).length ≤ sizeLine := by rw [List.length_map, b2.length_eq, pk.length_eq, sizeLine_eq]; omega
  have kk : ∀ b u, s.heap.get? b = some u → (PyProof.Rows.sortedHeap (z.heap.push (seqObj "list" vs.toArray 0)) z.heap.objs.size vs ((arrOf st').map (·.2))).get? b = some u := fun b u e => by
    have e1 := k1 b u e
    have lt := Heap.lt_size e1
    rw [PyProof.Rows.sortedHeap_old (Nat.ne_of_lt lt) (by rw [size_push']; exact Nat.lt_succ_of_lt lt)]
    exact Heap.get?_push_of_some _ e1
  have hn : H z.heap.objs.size = none := I.hok.fresh hz
  have J : Inv X pins σ (upd H z.heap.objs.size (.lst (ys.map V.str))) { s with heap := PyProof.Rows.sortedHeap (z.heap.push (seqObj "list" vs.toArray 0)) z.heap.objs.size vs ((arrOf st').map (·.2)), gens := z.gens, drawn := z.drawn, toks := z.toks } :=
    I.call (ch := []) (Un.laid kk hz hn) (I.hok.laid kk hz ⟨hlen, ((arrOf st').map (·.2)).toList, c, vals_of_strs b1, by rw [Array.toArray_toList]; exact hc'⟩) (by rw [g1]; exact I.bare) (fun _ z => nomatch z)
  cases z
  cases s
  simp only at o1
  subst o1
  exact wpAny_pure ⟨_, rfl, .ref _, _, J, rfl, q ys _ (b2.trans pk) b3 hn⟩
end
end Fm
/-! sorted texts are one -/
namespace Fm
open PySem PySem.Spec PyProof.Rows L2
abbrev tS (l : List Nat) : Str := ⟨l.toArray⟩
theorem rising_pw : ∀ (r : List (List Nat)) (p : List Nat), risingS (tS p) (r.map tS) = true → (p :: r).Pairwise (fun a b => a ≤ b)
  | [], p, _ => List.pairwise_cons.mpr ⟨fun _ h => (nomatch h), .nil⟩
  | x :: r, p, h => by
    have h : (!ltCps (tS x).cps.toList (tS p).cps.toList && risingS (tS x) (r.map tS)) = true := h
    rw [Bool.and_eq_true] at h
    have h1 := rising_pw r x h.2
    have h2 : p ≤ x := by
      have q := h.1
      rw [ltCps_eq] at q
      simp only [List.toList_toArray, Bool.not_eq_true', decide_eq_false_iff_not] at q
      exact List.not_lt.mp q
    refine List.pairwise_cons.mpr ⟨fun y hy => ?_, h1⟩
    rcases List.mem_cons.mp hy with rfl | hy
    · exact h2
    · exact List.le_trans h2 ((List.pairwise_cons.mp h1).1 y hy)
theorem sorted_pw {l : List (List Nat)} (h : sortedS (l.map tS) = true) : l.Pairwise (fun a b => a ≤ b) := by
  cases l with
  | nil => exact .nil
  | cons x r => exact rising_pw r x h
theorem srtS_eq {l m : List (List Nat)} (p : l.Perm m) (a : sortedS (l.map tS) = true) (b : sortedS (m.map tS) = true) : l = m :=
  List.Perm.eq_of_pairwise (fun _ _ _ _ x y => List.le_antisymm x y) (sorted_pw a) (sorted_pw b) p
/-- text.startswith(r, i) -/
theorem starts3 (t r : List Nat) (i : Nat) (hi : i ≤ t.length) : Txt.startswith3 (tS t) (tS r) (i : Int) = decide ((t.drop i).take r.length = r) := by
  unfold Txt.startswith3 fromIndex
  have e1 : (tS t).length = t.length := by show t.toArray.size = _; rw [List.size_toArray]
  have e2 : (tS r).length = r.length := by show r.toArray.size = _; rw [List.size_toArray]
  have e3 : (max 0 (if (i : Int) < 0 then (i : Int) + ((tS t).length : Int) else (i : Int))).toNat = i := by
    rw [if_neg (by omega)]; omega
  rw [e3, e1, e2]
  unfold PySem.Builtin.Str.subAt
  rw [e2]
  by_cases h : i + r.length ≤ t.length
  · rw [decide_eq_true h, Bool.true_and]
    show (t.toArray.extract i (i + r.length) == r.toArray) = _
    rw [List.extract_toArray, Bool.eq_iff_iff, beq_iff_eq, decide_eq_true_eq]
    have e4 : List.extract t i (i + r.length) = (t.drop i).take r.length := by
      unfold List.extract
      rw [show i + r.length - i = r.length by omega]
    rw [e4]
    exact ⟨fun z => by injection z, fun z => by rw [z]⟩
  · rw [decide_eq_false h, Bool.false_and]
    symm
    refine decide_eq_false fun z => h ?_
    have := congrArg List.length z
    rw [List.length_take, List.length_drop] at this
    omega
end Fm
/-! lists of tuples by keys; edits -/
namespace Fm
open PySem PySem.Spec PyProof.Rows L2
theorem tl_of {α : Type} {r : Rp α} {H : Hp} (f : α → List Key) (hr : ∀ v x, r H v x → ∃ a, v = .ref a ∧ H a = some (.tup ((f x).map kV))) : ∀ {vs : List V} {xs : List α}, Al r H vs xs →
    ∃ ks : TL, vs = ks.map (fun p => V.ref p.1) ∧ ks.length = xs.length ∧ ∀ p ∈ ks, ∃ x, x ∈ xs ∧ p.2 = f x ∧ H p.1 = some (.tup (p.2.map kV))
  | [], [], .nil => ⟨[], rfl, rfl, fun _ z => nomatch z⟩
  | _ :: _, x :: _, .cons h t => by
    obtain ⟨ks, e, hl, hk⟩ := tl_of f hr t
    obtain ⟨a, rfl, ha⟩ := hr _ _ h
    refine ⟨(a, f x) :: ks, by rw [e]; rfl, by rw [List.length_cons, List.length_cons, hl], fun p hp => ?_⟩
    rcases List.mem_cons.mp hp with rfl | hp
    · exact ⟨x, List.mem_cons_self, rfl, ha⟩
    · obtain ⟨x, hx, h1, h2⟩ := hk p hp
      exact ⟨x, List.mem_cons_of_mem _ hx, h1, h2⟩
theorem tl_back {α : Type} {r : Rp α} {H : Hp} (f : α → List Key) (hf : ∀ a x, H a = some (.tup ((f x).map kV)) → r H (.ref a) x) (xs : List α) : ∀ L : TL, (∀ p ∈ L, ∃ x, x ∈ xs ∧ p.2 = f x ∧ H p.1 = some (.tup (p.2.map kV))) →
    ∃ ys, Al r H (L.map fun p => V.ref p.1) ys ∧ (∀ y ∈ ys, y ∈ xs) ∧ ys.map f = L.map (·.2)
  | [], _ => ⟨[], .nil, (fun _ z => nomatch z), rfl⟩
  | p :: L, h => by
    obtain ⟨ys, h1, h2, h3⟩ := tl_back f hf xs L fun q hq => h q (List.mem_cons_of_mem _ hq)
    obtain ⟨x, hx, e, hp⟩ := h p List.mem_cons_self
    rw [e] at hp
    refine ⟨x :: ys, .cons (hf _ _ hp) h1, fun y hy => ?_, by rw [List.map_cons, List.map_cons, h3, e]⟩
    rcases List.mem_cons.mp hy with rfl | hy
    · exact hx
    · exact h2 y hy
/-- a list whose own address is not in N -/
def rLa (N : List Addr) {α : Type} (r : Rp α) : Rp (List α) := fun H v l => ∃ a xs, v = .ref a ∧ H a = some (.lst xs) ∧ Al r H xs l ∧ a ∉ N
class Ma (N : List Addr) {α : Type} (r : Rp α) : Prop where
  ma : ∀ {H H' : Hp} {v : V} {x : α}, Fx N H H' → r H v x → r H' v x
instance (priority := low) {N : List Addr} {α : Type} {r : Rp α} [Mo r] : Ma N r := ⟨fun f h => Mo.mo (r := r) f h⟩
theorem Al.ma {N : List Addr} {α : Type} {r : Rp α} [Ma N r] {H H' : Hp} {xs : List V} {l : List α} (f : Fx N H H') (h : Al r H xs l) : Al r H' xs l := L2.Paired.mapP h fun _ _ q => Ma.ma (r := r) f q
instance {N : List Addr} {α : Type} {r : Rp α} [Ma N r] : Ma N (rLa N r) := ⟨fun f ⟨a, xs, e, h, h1, n⟩ => ⟨a, xs, e, f.keep _ _ n h, Al.ma f h1, n⟩⟩
theorem Al.imp {α : Type} {r r' : Rp α} {H : Hp} {xs : List V} {l : List α} (h : Al r H xs l) (q : ∀ v x, r H v x → r' H v x) : Al r' H xs l := L2.Paired.mapP h fun _ _ z => q _ _ z
theorem rLa.to {N : List Addr} {α : Type} {r r' : Rp α} {H : Hp} {v : V} {l : List α} (h : rLa N r H v l) (q : ∀ v x, r H v x → r' H v x) : rL r' H v l := by
  obtain ⟨a, xs, e, h1, h2, _⟩ := h
  exact ⟨a, xs, e, h1, h2.imp q⟩
theorem rLa.more {N : List Addr} {α : Type} {r r' : Rp α} {H : Hp} {v : V} {l : List α} {T : Addr} (h : rLa N r H v l) (hT : H T = none) (q : ∀ v x, r H v x → r' H v x) : rLa (N ++ [T]) r' H v l := by
  obtain ⟨a, xs, e, h1, h2, n⟩ := h
  refine ⟨a, xs, e, h1, h2.imp q, fun z => ?_⟩
  rcases List.mem_append.mp z with z | z
  · exact n z
  · rw [List.mem_singleton.mp z, hT] at h1; cases h1
theorem rLa.sub {N N' : List Addr} {α : Type} {r r' : Rp α} {H : Hp} {v : V} {l : List α} (h : rLa N r H v l) (s : ∀ x ∈ N', x ∈ N) (q : ∀ v x, r H v x → r' H v x) : rLa N' r' H v l := by
  obtain ⟨a, xs, e, h1, h2, n⟩ := h
  exact ⟨a, xs, e, h1, h2.imp q, fun z => n (s _ z)⟩
def rP4 {α β γ δ : Type} (r : Rp α) (q : Rp β) (t : Rp γ) (u : Rp δ) : Rp (α × β × γ × δ) := fun H v p => ∃ a x y z w, v = .ref a ∧ H a = some (.tup [x, y, z, w]) ∧ r H x p.1 ∧ q H y p.2.1 ∧ t H z p.2.2.1 ∧ u H w p.2.2.2
instance {α β γ δ : Type} {r : Rp α} {q : Rp β} {t : Rp γ} {u : Rp δ} [Me r] [Me q] [Me t] [Me u] : Me (rP4 r q t u) :=
  ⟨fun f ⟨a, x, y, z, w, e, h, h1, h2, h3, h4⟩ => ⟨a, x, y, z, w, e, f.k h, Me.me (r := r) f h1, Me.me (r := q) f h2, Me.me (r := t) f h3, Me.me (r := u) f h4⟩⟩
instance {N : List Addr} {α β γ δ : Type} {r : Rp α} {q : Rp β} {t : Rp γ} {u : Rp δ} [Ma N r] [Ma N q] [Ma N t] [Ma N u] : Ma N (rP4 r q t u) :=
  ⟨fun f ⟨a, x, y, z, w, e, h, h1, h2, h3, h4⟩ => ⟨a, x, y, z, w, e, f.tups _ _ h, Ma.ma (r := r) f h1, Ma.ma (r := q) f h2, Ma.ma (r := t) f h3, Ma.ma (r := u) f h4⟩⟩
theorem rP4.imp {α β γ δ : Type} {r : Rp α} {q : Rp β} {t : Rp γ} {u u' : Rp δ} {H : Hp} {v : V} {p : α × β × γ × δ} (h : rP4 r q t u H v p) (k : ∀ v x, u H v x → u' H v x) : rP4 r q t u' H v p := by
  obtain ⟨a, x, y, z, w, e, h, h1, h2, h3, h4⟩ := h
  exact ⟨a, x, y, z, w, e, h, h1, h2, h3, k _ _ h4⟩
theorem Fx.of_fx {H H1 H' : Hp} {R : Addr} (e : Fe H H1) (f : Fx [R] H1 H') (hR : H R = none) : Fe H H' :=
  ⟨fun a o _ h => f.keep a o (fun z => by rw [List.mem_singleton.mp z, hR] at h; cases h) (e.k h), fun a xs h => f.tups a xs (e.k h)⟩
abbrev rEd : Rp (List Nat × List Nat × Nat) := rP3 rS rS rN
def edK (e : List Nat × List Nat × Nat) : List Key := [kS e.1, kS e.2.1, kN e.2.2]
theorem ed_key {H : Hp} {v : V} {e : List Nat × List Nat × Nat} (h : rEd H v e) : ∃ a, v = .ref a ∧ H a = some (.tup ((edK e).map kV)) := by
  obtain ⟨a, x, y, z, rfl, ha, rfl, rfl, rfl⟩ := h
  exact ⟨a, rfl, ha⟩
theorem ed_back {H : Hp} {a : Addr} {e : List Nat × List Nat × Nat} (h : H a = some (.tup ((edK e).map kV))) : rEd H (.ref a) e := ⟨a, _, _, _, rfl, h, rfl, rfl, rfl⟩
/-- a list of tuples, as sorted takes it and gives it back -/
theorem tl_sort {α : Type} {r : Rp α} {H : Hp} (K : PySem.W.Frag) {xs : List V} {l : List α} {sh : List Bool} (f : α → List Key) (hr : ∀ v x, r H v x → ∃ a, v = .ref a ∧ H a = some (.tup ((f x).map kV))) (hsh : ∀ x, shOf (f x) = sh) (al : Al r H xs l) :
    ∃ ps : TL, xs = ps.map (fun p => V.ref p.1) ∧ (∀ p ∈ ps, SqT K H p.1 (p.2.map kV) ∧ shOf p.2 = sh) ∧ ∀ ps' : TL, ps'.Perm ps → ∃ l', l'.Perm l ∧ Al r H (ps'.map fun p => V.ref p.1) l' := by
  obtain ⟨ps, rfl, _, h⟩ := tl_of f hr al
  refine ⟨ps, rfl, fun p hp => ?_, fun ps' pm => al_perm (pm.map _) al⟩
  obtain ⟨x, _, e1, e2⟩ := h p hp
  exact ⟨SqT.of e2, by rw [e1]; exact hsh x⟩
end Fm
namespace Fm
open PySem L2
/-! ### states_behind, states_along -/
abbrev Web := List (List (Nat × Nat))
def Lead (E : Nat → Nat → Nat → Prop) : List Nat → Nat → Nat → Prop
  | [], q, p => q = p
  | c :: t, q, p => ∃ r, E q c r ∧ Lead E t r p
theorem Lead.snoc {E : Nat → Nat → Nat → Prop} {c : Nat} : ∀ {t : List Nat} {q p : Nat}, Lead E (t ++ [c]) q p ↔ ∃ r, Lead E t q r ∧ E r c p
  | [], q, p => by
    constructor
    · rintro ⟨r, h, rfl⟩; exact ⟨q, rfl, h⟩
    · rintro ⟨r, rfl, h⟩; exact ⟨p, h, rfl⟩
  | d :: t, q, p => by
    constructor
    · rintro ⟨r, h, h2⟩
      obtain ⟨u, h3, h4⟩ := Lead.snoc.mp h2
      exact ⟨u, ⟨r, h, h3⟩, h4⟩
    · rintro ⟨u, ⟨r, h, h3⟩, h4⟩
      exact ⟨r, h, Lead.snoc.mpr ⟨u, h3, h4⟩⟩
theorem lead_lt {E : Nat → Nat → Nat → Prop} {N : Nat} (hE : ∀ q c p, E q c p → p < N) : ∀ {t : List Nat} {q p : Nat}, q < N → Lead E t q p → p < N
  | [], _, _, h, e => by cases e; exact h
  | _ :: _, _, _, _, ⟨_, h1, h2⟩ => lead_lt hE (hE _ _ _ h1) h2
/-- a web of at most 60 nodes -/
structure WOk (web : Web) : Prop where
  few : web.length ≤ 60
  ok : ∀ row ∈ web, ∀ p ∈ row, p.2 < web.length
def spStatesBehind : Sp := fun vs H Q _ => ∃ (web : Web) (qs : List Nat) (c : Nat) (v1 v2 : V), vs = [v1, v2, .str ⟨#[c]⟩] ∧ rL (rL (rP rC rN)) H v1 web ∧ rT rN H v2 qs ∧ WOk web ∧ (∀ q ∈ qs, q < web.length) ∧
  ∀ (v : V) (H' : Hp) (l : List Nat), Fe H H' → rT rN H' v l → l.Pairwise (· < ·) → (∀ t, t ∈ l ↔ ∃ q, q ∈ qs ∧ Ed web q c t) → Q v H'
theorem asc_lt {l : List Nat} (h : l.Pairwise (· ≤ ·)) (hn : l.Nodup) : l.Pairwise (· < ·) := by
  induction l with
  | nil => exact .nil
  | cons x l ih =>
    rw [List.pairwise_cons] at h ⊢
    rw [List.nodup_cons] at hn
    exact ⟨fun y hy => by have := h.1 y hy; have : x ≠ y := fun e => hn.1 (e ▸ hy); omega, ih h.2 hn.2⟩
section
variable {P : Program} {w : World} {K : PySem.W.Frag} {g : Str → Option Value} {base : Heap}
theorem ok_states_behind (T : Txt K g) : FnOk P w K g base CX0 1 T.d_states_behind.f T.d_states_behind.fd P_states_behind spStatesBehind := by
  refine T.d_states_behind.F.ok sc_states_behind (fun vs H Q E h => ?_) (fun cdv A outer s H vs Q E hr h => ?_)
  · obtain ⟨web, qs, c, v1, v2, rfl, _⟩ := h
    rfl
  · obtain ⟨web, qs, c, v1, v2, rfl, hw, hq, ok, hqs, kk⟩ := h
    have hu := hu_of hr
    refine ⟨_, (pss_cons (ps_set (i := 3) sc_states_behind.nd rfl (by first | exact Or.inl rfl | exact Or.inr rfl) pe_dnewK)
    (pss_cons (ps_for PassesOwn.never rfl (ki_tup (K := K) rfl (pv 1)) (pg_name (i := 4) sc_states_behind.nd rfl (by first | exact Or.inl rfl | exact Or.inr rfl))
      (pss_one (ps_for PassesOwn.never rfl (ki_list (K := K) rfl (pe_ix (kx_list (K := K) rfl) (pv 0) (pv 4) (fun _ _ => rfl))) (kg_tup (K := K) 2 rfl rfl (pgs_cons (pg_name (i := 5) sc_states_behind.nd rfl (by first | exact Or.inl rfl | exact Or.inr rfl)) (pgs_cons (pg_name (i := 6) sc_states_behind.nd rfl (by first | exact Or.inl rfl | exact Or.inr rfl)) pgs_nil)))
        (pss_one (ps_if (pt_cmpR op_eq (pv 5) (pv 2) (nomark _))
          (pss_one (ps_dput hu (pv 3) (pv 6) pe_bl rfl))
          pss_nil)))))
    (pss_one (ps_ret (pe_callTy (kc_tuple (K := K) rfl) (by rfl) T.z_tuple (by decide +kernel) (pa_cons (pe_callB (kc_sortedDI rfl) (by rfl) T.z_sorted (by decide +kernel) (pa_cons (pv 3) pa_nil)) pa_nil)))))), ?_⟩
    obtain ⟨a, cells, rfl, ha, hcells⟩ := id hw
    obtain ⟨b, sts, rfl, hb, hsts⟩ := id hq
    intro d hd
    have e0 : Fe H (upd H d (.dK [])) := Fe.new hd
    have hfew := ok.few
    refine ⟨_, rfl, b, rfl, ⟨_, SqT.of (e0.k hb)⟩, for_tup (K := K) (a := b) (xs := sts) (fun i σ' H' => ∃ (ks : List Nat) (o1 o2 o3 : Option V), σ' = [some (.ref a), some (.ref b), some (.str ⟨#[c]⟩), some (.ref d), o1, o2, o3] ∧ Fe H H' ∧
      H' d = some (.dK (tks kN ks)) ∧ ks.Nodup ∧ ∀ t, t ∈ ks ↔ ∃ q, q ∈ qs.take i ∧ Ed web q c t) ⟨[], none, none, none, rfl, e0, upd_same, List.nodup_nil, fun t => ⟨fun h => (nomatch h), fun ⟨q, h, _⟩ => (nomatch h)⟩⟩
      (fun i σ' H' _ ⟨_, _, _, _, _, e, _⟩ => SqT.of (e.k hb)) ?_ ?_⟩
    · rintro i x σ' H' hx ⟨ks, o1, o2, o3, rfl, e, hD, nd, hks⟩
      obtain ⟨q, hq, rfl⟩ := hsts.get hx
      have hqw := hqs q (List.mem_of_getElem? hq)
      have hwq : web[q]? = some web[q] := List.getElem?_eq_getElem hqw
      obtain ⟨rv, hrv, hrow⟩ := hcells.at hwq
      obtain ⟨r, its, rfl, hr2, hits⟩ := id hrow
      refine ⟨_, rfl, _, rfl, a, _, _, .ref r, rfl, rfl, SqL.of (e.k ha), atI_nat hrv, r, rfl, ⟨_, SqL.of (e.k hr2)⟩, for_lst (xs := its) (fun j σ' H' => ∃ (ks : List Nat) (o2 o3 : Option V), σ' = [some (.ref a), some (.ref b), some (.str ⟨#[c]⟩), some (.ref d), some (.int (q : Int)), o2, o3] ∧ Fe H H' ∧
        H' d = some (.dK (tks kN ks)) ∧ ks.Nodup ∧ ∀ t, t ∈ ks ↔ (∃ q, q ∈ qs.take i ∧ Ed web q c t) ∨ (c, t) ∈ web[q].take j) ⟨ks, o2, o3, rfl, e, hD, nd, fun t => by rw [hks t]; simp⟩ (fun j σ' H' _ ⟨_, _, _, _, e, _⟩ => e.k hr2) ?_ ?_⟩
      · rintro j x σ' H' hx ⟨ks, o2, o3, rfl, e, hD, nd, hks⟩
        obtain ⟨p, hp, hpr⟩ := hits.get hx
        obtain ⟨u, x1, x2, rfl, hu2, rfl, rfl⟩ := id hpr
        have htake : web[q].take (j + 1) = web[q].take j ++ [p] := by rw [List.take_add_one, hp]; rfl
        refine ⟨u, _, rfl, SqT.of (e.k hu2), rfl, _, _, rfl, _, _, rfl, rfl, ?_⟩
        refine ⟨_, rfl, _, rfl, rfl, _, rfl, ?_⟩
        by_cases hc : p.1 = c
        · rw [decide_eq_true (by rw [hc])]
          have hkl : ks.length ≤ 60 := by
            refine Nat.le_trans (nodup_below web.length ks nd fun t ht => ?_) hfew
            rcases (hks t).mp ht with ⟨q, _, row, h1, h2⟩ | h
            · exact ok.ok row (List.mem_of_getElem? h1) _ h2
            · exact ok.ok _ (List.mem_of_getElem? hwq) _ (List.mem_of_mem_take h)
          refine iteT ⟨_, rfl, _, rfl, d, _, rfl, DPut.k (k := kN p.2) hD (by rw [tks_len, sizeLine_eq]; omega), ?_⟩
          refine ⟨ins p.2 ks, _, _, rfl, e.mut hd, by rw [upd_same, tks_put kN kN_inj], nd_ins nd, fun t => ?_⟩
          rw [mem_ins, hks t, htake, List.mem_append, List.mem_singleton]
          constructor
          · rintro (rfl | h | h)
            · exact .inr (.inr (by rw [← hc]))
            · exact .inl h
            · exact .inr (.inl h)
          · rintro (h | h | h)
            · exact .inr (.inl h)
            · exact .inr (.inr h)
            · exact .inl (by rw [← h])
        · rw [decide_eq_false (by intro z; apply hc; have := V.str.inj z; have := congrArg Str.cps this; simpa using this)]
          refine iteF ⟨ks, _, _, rfl, e, hD, nd, fun t => ?_⟩
          rw [hks t, htake, List.mem_append, List.mem_singleton]
          constructor
          · rintro (h | h)
            · exact .inl h
            · exact .inr (.inl h)
          · rintro (h | h | h)
            · exact .inl h
            · exact .inr h
            · exact absurd (by rw [← h]) hc
      · rintro σ' H' ⟨ks, o2, o3, rfl, e, hD, nd, hks⟩
        refine ⟨ks, _, _, _, rfl, e, hD, nd, fun t => ?_⟩
        rw [hks t, hits.len, List.take_length, List.take_add_one, hq]
        constructor
        · rintro (⟨q', h, h2⟩ | h)
          · exact ⟨q', List.mem_append_left _ h, h2⟩
          · exact ⟨q, List.mem_append_right _ (List.mem_singleton.mpr rfl), _, hwq, h⟩
        · rintro ⟨q', h, row, h1, h2⟩
          rcases List.mem_append.mp h with h | h
          · exact .inl ⟨q', h, row, h1, h2⟩
          · have e2 : q' = q := List.mem_singleton.mp h
            subst e2
            rw [hwq] at h1; cases h1
            exact .inr h2
    · rintro σ' H' ⟨ks, o1, o2, o3, rfl, e, hD, nd, hks⟩
      have hkl : ks.length ≤ 60 := by
        refine Nat.le_trans (nodup_below web.length ks nd fun t ht => ?_) hfew
        obtain ⟨q, _, row, h1, h2⟩ := (hks t).mp ht
        exact ok.ok row (List.mem_of_getElem? h1) _ h2
      refine ⟨_, rfl, d, _, ks.map fun n : Nat => (n : Int), rfl, .inl hD, by rw [tks_keys, List.map_map]; rfl, by rw [List.length_map]; omega, fun ys p hp hs hnp => ?_⟩
      obtain ⟨l, rfl, hpm⟩ := perm_nats hp
      have e1 : Fe H' (upd H' p (.lst ((l.map fun n : Nat => (n : Int)).map V.int))) := Fe.new hnp
      refine ⟨p, _, rfl, .inl ⟨SqL.of upd_same, fun p2 hp2 => ?_⟩⟩
      refine kk _ _ l ((e.trans e1).trans (Fe.new hp2)) ⟨p2, _, rfl, upd_same, ?_⟩ ?_ fun t => ?_
      · rw [List.map_map]
        exact Al.ofNats l
      · refine asc_lt ?_ (hpm.nodup_iff.mpr nd)
        rw [List.pairwise_map] at hs
        exact hs.imp fun h => by omega
      · rw [hpm.mem_iff, hks t, List.take_of_length_le (by rw [hsts.len]; exact Nat.le_refl _)]
def spStatesAlong : Sp := fun vs H Q _ => ∃ (web : Web) (qs : List Nat) (t : List Nat) (v1 v2 : V), vs = [v1, v2, .str ⟨t.toArray⟩] ∧ rL (rL (rP rC rN)) H v1 web ∧ rT rN H v2 qs ∧ WOk web ∧ (∀ q ∈ qs, q < web.length) ∧ qs.Nodup ∧
  ∀ (v : V) (H' : Hp) (l : List Nat), Fe H H' → rT rN H' v l → l.Nodup → (∀ p, p ∈ l ↔ ∃ q, q ∈ qs ∧ Lead (Ed web) t q p) → Q v H'
theorem ok_states_along (T : Txt K g) : FnOk P w K g base CX0 2 T.d_states_along.f T.d_states_along.fd P_states_along spStatesAlong := by
  refine T.d_states_along.F.ok sc_states_along (fun vs H Q E h => ?_) (fun cdv A outer s H vs Q E hr h => ?_)
  · obtain ⟨web, qs, t, v1, v2, rfl, _⟩ := h
    rfl
  · obtain ⟨web, qs, t, v1, v2, rfl, hw, hq, ok, hqs, hnd, kk⟩ := h
    have hu := hu_of hr
    refine ⟨_, (pss_cons (ps_for PassesOwn.never rfl (pi_str (pv 2)) (pg_name (i := 3) sc_states_along.nd rfl (by first | exact Or.inl rfl | exact Or.inr rfl))
      (pss_one (ps_set (i := 1) sc_states_along.nd rfl (by first | exact Or.inl rfl | exact Or.inr rfl) (pe_call (ok_states_behind T) (hr.mono (by decide)) rfl T.d_states_behind.mg T.d_states_behind.kp T.d_states_behind.b .nil pass0 (pa_cons (pv 0) (pa_cons (pv 1) (pa_cons (pv 3) pa_nil)))))))
    (pss_one (ps_ret (pv 1)))), ?_⟩
    refine ⟨_, rfl, _, rfl, for_str (l := t) (fun i σ' H' => ∃ (v : V) (o : Option V) (l : List Nat), σ' = [some v1, some v, some (.str ⟨t.toArray⟩), o] ∧ Fe H H' ∧ rT rN H' v l ∧ l.Nodup ∧ ∀ p, p ∈ l ↔ ∃ q, q ∈ qs ∧ Lead (Ed web) (t.take i) q p)
      ⟨v2, none, qs, rfl, Fx.refl _ _, hq, hnd, fun p => ⟨fun h => ⟨p, h, rfl⟩, fun ⟨q, h, e⟩ => by have e : q = p := e; exact e ▸ h⟩⟩ ?_ ?_⟩
    · rintro i c σ' H' hc ⟨v, o, l, rfl, e, hl, hln, hm⟩
      refine ⟨_, rfl, _, rfl, _, rfl, web, l, c, v1, v, rfl, Me.go hw e, hl, ok, fun p hp => ?_, fun v' H2 l' e2 hl' hlt' hm' => ⟨v', _, l', rfl, e.trans e2, hl', hlt'.imp (fun h => by omega), fun p => ?_⟩⟩
      · obtain ⟨q, h1, h2⟩ := (hm p).mp hp
        exact lead_lt (fun q c p ⟨row, h3, h4⟩ => ok.ok row (List.mem_of_getElem? h3) _ h4) (hqs q h1) h2
      · rw [hm' p, List.take_add_one, hc]
        show _ ↔ ∃ q, q ∈ qs ∧ Lead (Ed web) (t.take i ++ [c]) q p
        constructor
        · rintro ⟨r, h1, h2⟩
          obtain ⟨q, h3, h4⟩ := (hm r).mp h1
          exact ⟨q, h3, Lead.snoc.mpr ⟨r, h4, h2⟩⟩
        · rintro ⟨q, h3, h4⟩
          obtain ⟨r, h5, h6⟩ := Lead.snoc.mp h4
          exact ⟨r, (hm r).mpr ⟨q, h3, h5⟩, h6⟩
    · rintro σ' H' ⟨v, o, l, rfl, e, hl, hln, hm⟩
      refine ⟨_, rfl, kk v H' l e hl hln fun p => ?_⟩
      rw [hm p, List.take_of_length_le (Nat.le_refl _)]
/-! ### rests_of -/
/-- letters, edits (read, write, cost) -/
abbrev Book := List Nat × List (List Nat × List Nat × Nat)
abbrev rBook : Rp Book := rP rS (rT (rP3 rS rS rN))
structure BOk (b : Book) : Prop where
  few : b.2.length ≤ 60
  len : ∀ e ∈ b.2, e.1.length ≤ 3
  len2 : ∀ e ∈ b.2, e.2.1.length ≤ 3
  lets : ∀ e ∈ b.2, ∀ c ∈ e.1, c ∈ b.1
  fewL : b.1.length ≤ 100
/-- the edits and the letters that stay -/
def alle (b : Book) : List (List Nat × List Nat × Nat) := b.2 ++ b.1.map fun x => ([x], [x], 0)
/-- what of a read may still be to be read -/
def Rest (b : Book) (r : List Nat) : Prop := r = [] ∨ ∃ e k, e ∈ b.2 ∧ 1 ≤ k ∧ k < e.1.length ∧ r = e.1.drop k
/-- not many rests -/
def RsB (b : Book) : Prop := ∀ rs : List (List Nat), rs.Nodup → (∀ r ∈ rs, Rest b r) → rs.length ≤ 61
theorem nodup_sub {α : Type} [DecidableEq α] : ∀ (L rs : List α), rs.Nodup → (∀ r ∈ rs, r ∈ L) → rs.length ≤ L.length
  | [], rs, _, h => by
    cases rs with
    | nil => exact Nat.le_refl _
    | cons x l => exact nomatch h x List.mem_cons_self
  | a :: L, rs, hn, h => by
    have h2 : ∀ x ∈ rs.erase a, x ∈ L := fun x hx => by
      have h1 := h x (List.mem_of_mem_erase hx)
      have h3 : x ≠ a := fun e => by rw [e] at hx; exact (List.Nodup.not_mem_erase hn) hx
      exact (List.mem_cons.mp h1).resolve_left h3
    have h4 := nodup_sub L _ (hn.erase a) h2
    rw [List.length_cons]
    by_cases hm : a ∈ rs
    · have := List.length_erase_of_mem hm
      have : 0 < rs.length := List.length_pos_of_mem hm
      omega
    · rw [List.erase_of_not_mem hm] at h4
      omega
theorem rsb_30 {b : Book} (h : BOk b) (h30 : b.2.length ≤ 30) : RsB b := by
  intro rs hn hr
  have h1 := nodup_sub ([] :: b.2.flatMap fun e => [e.1.drop 1, e.1.drop 2]) rs hn fun r hm => by
    rcases hr r hm with rfl | ⟨e, k, h1, h2, h3, rfl⟩
    · exact List.mem_cons_self
    · refine List.mem_cons_of_mem _ (List.mem_flatMap.mpr ⟨e, h1, ?_⟩)
      have := h.len e h1
      rcases (by omega : k = 1 ∨ k = 2) with rfl | rfl <;> simp
  have h2 : (b.2.flatMap fun e => [e.1.drop 1, e.1.drop 2]).length = 2 * b.2.length := by
    generalize b.2 = l
    induction l with
    | nil => rfl
    | cons x l ih => rw [List.flatMap_cons, List.length_append, ih]; show 2 + 2 * l.length = 2 * (l.length + 1); omega
  rw [List.length_cons, h2] at h1
  omega
def sS (l : List Nat) : Str := ⟨l.toArray⟩
def spRestsOf : Sp := fun vs H Q _ => ∃ (b : Book) (v1 : V), vs = [v1] ∧ rBook H v1 b ∧ BOk b ∧ RsB b ∧
  ∀ (v : V) (H' : Hp) (l : List (List Nat)), Fe H H' → rL rS H' v l → l.Nodup → PyProof.Rows.sortedS (l.map sS) = true → (∀ r, r ∈ l ↔ Rest b r) → l.length ≤ 61 → Q v H'
theorem perm_strs {ys : List Str} {ks : List (List Nat)} (h : ys.Perm (ks.map sS)) : ∃ l : List (List Nat), ys = l.map sS ∧ l.Perm ks := by
  have e1 : ∀ x ∈ ys, sS x.cps.toList = x := fun x _ => by
    show (⟨x.cps.toList.toArray⟩ : Str) = x
    rw [Array.toArray_toList]
  refine ⟨ys.map fun x => x.cps.toList, ?_, ?_⟩
  · rw [List.map_map]
    conv => lhs; rw [← List.map_id ys]
    exact List.map_congr_left fun x hx => (e1 x hx).symm
  · have := h.map fun x : Str => x.cps.toList
    rw [List.map_map] at this
    have e : ks.map ((fun x : Str => x.cps.toList) ∘ sS) = ks := by
      conv => rhs; rw [← List.map_id ks]
      exact List.map_congr_left fun n _ => rfl
    rw [e] at this
    exact this
theorem Al.strs {H : Hp} : ∀ l : List (List Nat), Al rS H ((l.map sS).map V.str) l
  | [] => .nil
  | x :: l => .cons rfl (Al.strs l)
theorem ok_rests_of (T : Txt K g) : FnOk P w K g base CX0 1 T.d_rests_of.f T.d_rests_of.fd P_rests_of spRestsOf := by
  refine T.d_rests_of.F.ok sc_rests_of (fun vs H Q E h => ?_) (fun cdv A outer s H vs Q E hr h => ?_)
  · obtain ⟨b, v1, rfl, _⟩ := h
    rfl
  · obtain ⟨b, v1, rfl, hb, ok, hRB, kk⟩ := h
    have hfew60 := ok.few
    have hu := hu_of hr
    refine ⟨_, (pss_cons (ps_set (i := 1) sc_rests_of.nd rfl (by first | exact Or.inl rfl | exact Or.inr rfl) (pe_disp (pps_cons pe_str pe_bl pps_nil) (by rfl) (by rfl) (fun z => by cases z) (by decide)))
    (pss_cons (ps_for PassesOwn.never rfl (ki_tup (K := K) rfl (pe_ix (kx_tup (K := K) rfl) (pv 0) pe_int (fun _ _ => rfl))) (kg_tup (K := K) 3 rfl rfl (pgs_cons (pg_name (i := 2) sc_rests_of.nd rfl (by first | exact Or.inl rfl | exact Or.inr rfl)) (pgs_cons (pg_name (i := 3) sc_rests_of.nd rfl (by first | exact Or.inl rfl | exact Or.inr rfl)) (pgs_cons (pg_name (i := 3) sc_rests_of.nd rfl (by first | exact Or.inl rfl | exact Or.inr rfl)) pgs_nil))))
      (pss_one (ps_for PassesOwn.never rfl (pi_range2 rfl T.z_range (pa_cons pe_int (pa_cons (pe_callB kc_lenS (by rfl) T.z_len PySem.boot_len (pa_cons (pv 2) pa_nil)) pa_nil))) (pg_name (i := 4) sc_rests_of.nd rfl (by first | exact Or.inl rfl | exact Or.inr rfl))
        (pss_one (ps_dput hu (pv 1) (pe_slice sl_str (pv 2) (po_some (pv 4)) po_none) pe_bl rfl)))))
    (pss_one (ps_ret (pe_callB (kc_sortedDS rfl) (by rfl) T.z_sorted (by decide +kernel) (pa_cons (pv 1) pa_nil)))))), ?_⟩
    obtain ⟨a, x, y, rfl, ha, rfl, hed⟩ := id hb
    obtain ⟨c, eds, rfl, hc, heds⟩ := id hed
    -- found = {"": True}
    intro d hd
    have e0 : Fe H (upd H d (.dK [])) := Fe.new hd
    refine ⟨upd_same, [(kS [], .bl true)], rfl, by decide, ?_⟩
    have e1 : Fe H (upd (upd H d (.dK [])) d (.dK (mergeK [] [(kS [], .bl true)]))) := e0.mut hd
    have em : mergeK [] [(kS [], V.bl true)] = tks kS [[]] := by
      have := tks_put kS kS_inj [] []
      exact this
    rw [em] at e1 ⊢
    generalize hH1 : upd (upd H d (.dK [])) d (.dK (tks kS [[]])) = H1 at e1
    have d1 : H1 d = some (.dK (tks kS [[]])) := by rw [← hH1]; exact upd_same
    clear hH1
    -- for read, _, _ in book[1]
    refine ⟨_, rfl, a, _, _, _, rfl, rfl, SqT.of (e1.k ha), rfl, c, rfl, ⟨_, SqT.of (e1.k hc)⟩, for_tup (K := K) (a := c) (xs := eds) (fun i σ' H' => ∃ (ks : List (List Nat)) (o1 o2 o3 : Option V), σ' = [some (.ref a), some (.ref d), o1, o2, o3] ∧ Fe H H' ∧
      H' d = some (.dK (tks kS ks)) ∧ ks.Nodup ∧ ks.length ≤ 1 + 2 * i ∧ ∀ r, r ∈ ks ↔ (r = [] ∨ ∃ e k, e ∈ b.2.take i ∧ 1 ≤ k ∧ k < e.1.length ∧ r = e.1.drop k)) ⟨[[]], none, none, none, rfl, e1, d1, by simp, by simp, fun r => by simp⟩
      (fun i σ' H' _ ⟨_, _, _, _, _, e, _⟩ => SqT.of (e.k hc)) ?_ ?_⟩
    · rintro i x σ' H' hx ⟨ks, o1, o2, o3, rfl, e, hD, nd, hkl, hks⟩
      obtain ⟨ed, hed, hxr⟩ := heds.get hx
      obtain ⟨u, x1, x2, x3, rfl, hu2, rfl, rfl, rfl⟩ := id hxr
      have hem : ed ∈ b.2 := List.mem_of_getElem? hed
      have h3 := ok.len ed hem
      have hil : i < b.2.length := (List.getElem?_eq_some_iff.mp hed).1
      refine ⟨u, _, rfl, SqT.of (e.k hu2), rfl, _, _, rfl, _, _, rfl, _, _, rfl, rfl, ?_⟩
      refine ⟨_, rfl, _, rfl, by rw [slen, sizeLine_eq]; omega, 1, ((ed.1.length : Nat) : Int), by rw [slen], ⟨by omega, by omega, by omega, by omega⟩, for_range (lo := 1) (n := ((ed.1.length : Int) - 1).toNat) (fun j σ' H' => ∃ (ks : List (List Nat)) (o2 : Option V), σ' = [some (.ref a), some (.ref d), some (.str ⟨ed.1.toArray⟩), some (.int (ed.2.2 : Int)), o2] ∧ Fe H H' ∧
        H' d = some (.dK (tks kS ks)) ∧ ks.Nodup ∧ ks.length ≤ 1 + 2 * i + j ∧ ∀ r, r ∈ ks ↔ ((r = [] ∨ ∃ e k, e ∈ b.2.take i ∧ 1 ≤ k ∧ k < e.1.length ∧ r = e.1.drop k) ∨ ∃ k, 1 ≤ k ∧ k < 1 + j ∧ r = ed.1.drop k)) ⟨ks, o3, rfl, e, hD, nd, hkl, fun r => by rw [hks r]; exact ⟨.inl, fun h => h.elim id fun ⟨k, a, b, _⟩ => by omega⟩⟩ ?_ ?_⟩
      · rintro j σ' H' hj ⟨ks, o2, rfl, e, hD, nd, hkl, hks⟩
        refine ⟨_, rfl, _, rfl, _, rfl, _, rfl, _, rfl, by rw [slen, sizeLine_eq]; omega, ?_⟩
        have ec : cutS ⟨ed.1.toArray⟩ (some (1 + (j : Int))) none = ⟨(ed.1.drop (1 + j)).toArray⟩ := by
          have := cut_from ed.1 (1 + j)
          rw [← this]
          congr 2
        refine ⟨d, upd H' d (.dK (putK (tks kS ks) (kS (ed.1.drop (1 + j))) (.bl true))), rfl, by rw [ec]; exact DPut.k (k := kS (ed.1.drop (1 + j))) hD (by rw [tks_len, sizeLine_eq]; omega), ?_⟩
        refine ⟨ins (ed.1.drop (1 + j)) ks, _, rfl, e.mut hd, by rw [upd_same, tks_put kS kS_inj], nd_ins nd, by have := len_ins (ed.1.drop (1 + j)) ks; omega, fun r => ?_⟩
        rw [mem_ins, hks r]
        constructor
        · rintro (h | h | ⟨k, h1, h2, h3⟩)
          · exact .inr ⟨1 + j, by omega, by omega, h⟩
          · exact .inl h
          · exact .inr ⟨k, h1, by omega, h3⟩
        · rintro (h | ⟨k, h1, h2, h3⟩)
          · exact .inr (.inl h)
          · by_cases hk : k = 1 + j
            · subst hk; exact .inl h3
            · exact .inr (.inr ⟨k, h1, by omega, h3⟩)
      · rintro σ' H' ⟨ks, o2, rfl, e, hD, nd, hkl, hks⟩
        refine ⟨ks, _, _, _, rfl, e, hD, nd, by omega, fun r => ?_⟩
        rw [hks r, List.take_add_one, hed]
        constructor
        · rintro ((h | ⟨e', k, h1, h2⟩) | ⟨k, h1, h2, h3⟩)
          · exact .inl h
          · exact .inr ⟨e', k, List.mem_append_left _ h1, h2⟩
          · exact .inr ⟨ed, k, List.mem_append_right _ (List.mem_singleton.mpr rfl), h1, by omega, h3⟩
        · rintro (h | ⟨e', k, h1, h2, h3, h4⟩)
          · exact .inl (.inl h)
          · rcases List.mem_append.mp h1 with h1 | h1
            · exact .inl (.inr ⟨e', k, h1, h2, h3, h4⟩)
            · have e2 : e' = ed := List.mem_singleton.mp h1
              subst e2
              exact .inr ⟨k, h2, by omega, h4⟩
    · rintro σ' H' ⟨ks, o1, o2, o3, rfl, e, hD, nd, hkl, hks⟩
      rw [heds.len] at hkl hks
      have hk61 : ks.length ≤ 61 := hRB ks nd fun r hr => by
        have := (hks r).mp hr
        rw [List.take_length] at this
        exact this
      refine ⟨_, rfl, d, _, ks.map sS, rfl, .inl hD, by rw [tks_keys, List.map_map]; rfl, by rw [List.length_map]; omega, fun ys p hp hs hnp => ?_⟩
      obtain ⟨l, rfl, hpm⟩ := perm_strs hp
      refine kk _ _ l (e.trans (Fe.new hnp)) ⟨p, _, rfl, upd_same, Al.strs l⟩ (hpm.nodup_iff.mpr nd) hs (fun r => ?_) (by rw [hpm.length_eq]; exact hk61)
      rw [hpm.mem_iff, hks r, List.take_length]
      rfl
end
end Fm
namespace Fm
open PySem L2
/-! ### standings and moves -/
abbrev Stg := Nat × List Nat
abbrev Em (m : Mach) (q c t : Nat) : Prop := (q, c, t) ∈ m.2.2
/-- a move that reads nothing -/
def Sil (b : Book) (m : Mach) (s s' : Stg) (c : Nat) : Prop := s.2 = [] ∧ s'.2 = [] ∧ ∃ wr, (([], wr, c) : List Nat × List Nat × Nat) ∈ b.2 ∧ Lead (Em m) wr s.1 s'.1
/-- a move that reads the letter x -/
def Rea (b : Book) (m : Mach) (x : Nat) (s s' : Stg) (c : Nat) : Prop :=
  (∃ r, s.2 = x :: r ∧ s' = (s.1, r) ∧ c = 0) ∨ (s.2 = [] ∧ s'.2 = [] ∧ Em m s.1 x s'.1 ∧ c = 0) ∨ (s.2 = [] ∧ ∃ rd wr, ((x :: rd, wr, c) : List Nat × List Nat × Nat) ∈ b.2 ∧ s'.2 = rd ∧ Lead (Em m) wr s.1 s'.1)
/-- the one or the other -/
def Mv (b : Book) (m : Mach) (k : Option Nat) (s s' : Stg) (c : Nat) : Prop := match k with
  | none => Sil b m s s' c
  | some x => Rea b m x s s' c
abbrev Row := List (Nat × Nat × Unit)
abbrev rMv : Rp (Nat × Nat × Unit) := rP3 rN rN rX
abbrev Edc (rows : List Row) (h to c : Nat) : Prop := ∃ row, rows[h]? = some row ∧ (to, c, ()) ∈ row
abbrev MatD := Addr × List Addr × List Row
def adr (L : List MatD) : List Addr := L.flatMap fun m => m.1 :: m.2.1
structure Mats (H0 H : Hp) (L : List MatD) : Prop where
  mat : ∀ m ∈ L, Mat rMv H0 H m.1 m.2.1 m.2.2
  nd : (adr L).Nodup
theorem adr_set {L : List MatD} {j : Nat} {m : MatD} (h : L[j]? = some m) (rows : List Row) : adr (L.set j (m.1, m.2.1, rows)) = adr L := by
  induction L generalizing j with
  | nil => rfl
  | cons a L ih =>
    cases j with
    | zero => cases h; rfl
    | succ j =>
      show _ ++ adr (L.set j _) = _ ++ adr L
      rw [ih h]
theorem mem_adr {L : List MatD} {m : MatD} {a : Addr} (h : m ∈ L) (ha : a = m.1 ∨ a ∈ m.2.1) : a ∈ adr L :=
  List.mem_flatMap.mpr ⟨m, h, by rcases ha with rfl | h; exact List.mem_cons_self; exact List.mem_cons_of_mem _ h⟩
theorem adr_apart {L : List MatD} (nd : (adr L).Nodup) {i j : Nat} {m n : MatD} (hi : L[i]? = some m) (hj : L[j]? = some n) (ne : i ≠ j) {a : Addr} (ha : a ∈ m.1 :: m.2.1) : a ∉ n.1 :: n.2.1 := by
  induction L generalizing i j with
  | nil => cases hi
  | cons b L ih =>
    have nd' : ((b.1 :: b.2.1) ++ adr L).Nodup := nd
    rw [List.nodup_append] at nd'
    obtain ⟨_, n2, n3⟩ := nd'
    cases i with
    | zero =>
      cases j with
      | zero => exact absurd rfl ne
      | succ j =>
        cases hi
        intro hn
        exact n3 a ha a (List.mem_flatMap.mpr ⟨n, List.mem_of_getElem? hj, hn⟩) rfl
    | succ i =>
      cases j with
      | zero =>
        cases hj
        intro hn
        exact n3 a hn a (List.mem_flatMap.mpr ⟨m, List.mem_of_getElem? hi, ha⟩) rfl
      | succ j => exact ih n2 hi hj (by omega)
theorem Mats.fe {H0 H H' : Hp} {L : List MatD} (M : Mats H0 H L) (f : Fe H H') : Mats H0 H' L := ⟨fun m h => (M.mat m h).fe f, M.nd⟩
theorem Mats.put {H0 H : Hp} {L : List MatD} (M : Mats H0 H L) {j h : Nat} {m : MatD} {q : Addr} {row : Row} {xs : List V} {v : V} {x : Nat × Nat × Unit} (hj : L[j]? = some m)
    (hq : m.2.1[h]? = some q) (hr : m.2.2[h]? = some row) (hx : H q = some (.lst xs)) (ha : Al rMv H xs row) (hv : rMv H v x) : Mats H0 (upd H q (.lst (xs ++ [v]))) (L.set j (m.1, m.2.1, m.2.2.set h (row ++ [x]))) := by
  have hm := List.mem_of_getElem? hj
  have hqm : q ∈ m.1 :: m.2.1 := List.mem_cons_of_mem _ (List.mem_of_getElem? hq)
  refine ⟨fun n hn => ?_, by rw [adr_set hj]; exact M.nd⟩
  obtain ⟨i, hi⟩ := List.mem_iff_getElem?.mp hn
  rw [List.getElem?_set] at hi
  by_cases e : j = i
  · subst e
    rw [if_pos rfl, if_pos (List.getElem?_eq_some_iff.mp hj).1] at hi
    cases hi
    exact (M.mat m hm).put hq hr hx ha hv
  · rw [if_neg e] at hi
    have ap := adr_apart M.nd hj hi e hqm
    have f : Fx [q] H (upd H q (.lst (xs ++ [v]))) := Fx.put hx (List.mem_singleton.mpr rfl) (fun _ z => nomatch z)
    refine (M.mat n (List.mem_of_getElem? hi)).keep f (fun z => ap ?_) (fun a ha z => ap ?_)
    · rw [← List.mem_singleton.mp z]; exact List.mem_cons_self
    · rw [← List.mem_singleton.mp z]; exact List.mem_cons_of_mem _ ha
/-- which moves the rows tell so far: by the key (none: silent; a letter), the standings' numbers, the cost -/
structure Rows (n : Nat) (ks : List (Option Nat)) (L : List MatD) (S : Option Nat → Nat → Nat → Nat → Prop) : Prop where
  len : L.length = ks.length
  rl : ∀ m ∈ L, m.2.2.length = n
  ed : ∀ (j : Nat) (k : Option Nat) (m : MatD) (h to c : Nat), ks[j]? = some k → L[j]? = some m → (Edc m.2.2 h to c ↔ (h < n ∧ S k h to c))
theorem Rows.put {n : Nat} {ks : List (Option Nat)} {L : List MatD} {S : Option Nat → Nat → Nat → Nat → Prop} (R : Rows n ks L S) (nk : ks.Nodup) {j h to c : Nat} {k : Option Nat} {m : MatD} {row : Row} (hk : ks[j]? = some k) (hj : L[j]? = some m)
    (hr : m.2.2[h]? = some row) : Rows n ks (L.set j (m.1, m.2.1, m.2.2.set h (row ++ [(to, c, ())]))) (fun k' h' to' c' => S k' h' to' c' ∨ (k' = k ∧ h' = h ∧ to' = to ∧ c' = c)) where
  len := by rw [List.length_set]; exact R.len
  rl := fun m' hm => by
    rcases List.mem_or_eq_of_mem_set hm with hm | rfl
    · exact R.rl m' hm
    · rw [List.length_set]; exact R.rl m (List.mem_of_getElem? hj)
  ed := fun i k' m' h' to' c' hi hm => by
    have hlt := (List.getElem?_eq_some_iff.mp hj).1
    have hhl := (List.getElem?_eq_some_iff.mp hr).1
    have hn : h < n := by rw [← R.rl m (List.mem_of_getElem? hj)]; exact hhl
    rw [List.getElem?_set] at hm
    by_cases e : j = i
    · subst e
      rw [if_pos rfl, if_pos hlt] at hm
      cases hm
      rw [hk] at hi; cases hi
      have := R.ed j k m h' to' c' hk hj
      constructor
      · rintro ⟨row', h1, h2⟩
        rw [List.getElem?_set] at h1
        by_cases e2 : h = h'
        · subst e2
          rw [if_pos rfl, if_pos hhl] at h1
          cases h1
          rcases List.mem_append.mp h2 with h2 | h2
          · have := this.mp ⟨row, hr, h2⟩
            exact ⟨this.1, .inl this.2⟩
          · have e3 := List.mem_singleton.mp h2
            cases e3
            exact ⟨hn, .inr ⟨rfl, rfl, rfl, rfl⟩⟩
        · rw [if_neg e2] at h1
          have := this.mp ⟨row', h1, h2⟩
          exact ⟨this.1, .inl this.2⟩
      · rintro ⟨hl, h2 | ⟨_, rfl, rfl, rfl⟩⟩
        · obtain ⟨row', h1, h3⟩ := this.mpr ⟨hl, h2⟩
          by_cases e2 : h = h'
          · subst e2
            rw [hr] at h1; cases h1
            exact ⟨_, by rw [List.getElem?_set, if_pos rfl, if_pos hhl], List.mem_append_left _ h3⟩
          · exact ⟨row', by rw [List.getElem?_set, if_neg e2]; exact h1, h3⟩
        · exact ⟨_, by rw [List.getElem?_set, if_pos rfl, if_pos hhl], List.mem_append_right _ (List.mem_singleton.mpr rfl)⟩
    · rw [if_neg e] at hm
      have ne : k' ≠ k := fun z => e (nd_ix nk (z ▸ hk) hi)
      rw [R.ed i k' m' h' to' c' hi hm]
      exact ⟨fun ⟨a, b⟩ => ⟨a, .inl b⟩, fun ⟨a, b⟩ => ⟨a, b.elim id fun z => absurd z.1 ne⟩⟩
theorem Rows.imp {n : Nat} {ks : List (Option Nat)} {L : List MatD} {S S' : Option Nat → Nat → Nat → Nat → Prop} (R : Rows n ks L S) (h : ∀ k h to c, k ∈ ks → h < n → (S k h to c ↔ S' k h to c)) : Rows n ks L S' :=
  ⟨R.len, R.rl, fun j k m h' to c hk hm => by rw [R.ed j k m h' to c hk hm]; exact ⟨fun ⟨a, b⟩ => ⟨a, (h k h' to c (List.mem_of_getElem? hk) a).mp b⟩, fun ⟨a, b⟩ => ⟨a, (h k h' to c (List.mem_of_getElem? hk) a).mpr b⟩⟩⟩
/-- the rows at one place hold at most t moves -/
def Bd (i t : Nat) (L : List MatD) : Prop := ∀ m ∈ L, ∀ row, m.2.2[i]? = some row → row.length ≤ t
theorem Bd.put {i t : Nat} {L : List MatD} (B : Bd i t L) {j : Nat} {m : MatD} {row : Row} {x : Nat × Nat × Unit} (hj : L[j]? = some m) (hr : m.2.2[i]? = some row) : Bd i (t + 1) (L.set j (m.1, m.2.1, m.2.2.set i (row ++ [x]))) := by
  intro m' hm row' hr'
  have hm0 := List.mem_of_getElem? hj
  rcases List.mem_or_eq_of_mem_set hm with hm | rfl
  · have := B m' hm row' hr'; omega
  · rw [List.getElem?_set, if_pos rfl, if_pos (List.getElem?_eq_some_iff.mp hr).1] at hr'
    cases hr'
    rw [List.length_append, List.length_singleton]
    have := B m hm0 row hr; omega
theorem Bd.none_ {i n : Nat} {ks : List (Option Nat)} {L : List MatD} {S : Option Nat → Nat → Nat → Nat → Prop} (R : Rows n ks L S) (h : ∀ k to c, ¬ S k i to c) : Bd i 0 L := by
  intro m hm row hr
  obtain ⟨j, hj⟩ := List.mem_iff_getElem?.mp hm
  have hjl : j < ks.length := by rw [← R.len]; exact (List.getElem?_eq_some_iff.mp hj).1
  cases row with
  | nil => exact Nat.le_refl _
  | cons x r =>
    obtain ⟨to, c, u⟩ := x
    exact absurd ((R.ed j _ m i to c (List.getElem?_eq_getElem hjl) hj).mp ⟨_, hr, List.mem_cons_self⟩).2 (h _ _ _)
/-! ### the web as an object -/
abbrev nb : Str := "book"
abbrev nm : Str := "machine"
abbrev ns : Str := "standings"
abbrev nh : Str := "homes"
abbrev nl : Str := "silent"
abbrev nr : Str := "reading"
def wfl (vb vm vs vh vl vr : V) : List (Str × V) := putF nr vr (putF nl vl (putF nh vh (putF ns vs (putF nm vm (putF nb vb [])))))
theorem w_bm : ¬ nb = nm := by decide +kernel
theorem w_bs : ¬ nb = ns := by decide +kernel
theorem w_bh : ¬ nb = nh := by decide +kernel
theorem w_bl : ¬ nb = nl := by decide +kernel
theorem w_br : ¬ nb = nr := by decide +kernel
theorem w_ms : ¬ nm = ns := by decide +kernel
theorem w_mh : ¬ nm = nh := by decide +kernel
theorem w_ml : ¬ nm = nl := by decide +kernel
theorem w_mr : ¬ nm = nr := by decide +kernel
theorem w_sh : ¬ ns = nh := by decide +kernel
theorem w_sl : ¬ ns = nl := by decide +kernel
theorem w_sr : ¬ ns = nr := by decide +kernel
theorem w_hl : ¬ nh = nl := by decide +kernel
theorem w_hr : ¬ nh = nr := by decide +kernel
theorem w_lr : ¬ nl = nr := by decide +kernel
theorem wfl_b {vb vm vs vh vl vr : V} : (wfl vb vm vs vh vl vr).lookup nb = some vb := by
  unfold wfl
  rw [lookup_putF, if_neg w_br, lookup_putF, if_neg w_bl, lookup_putF, if_neg w_bh, lookup_putF, if_neg w_bs, lookup_putF, if_neg w_bm, lookup_putF, if_pos rfl]
theorem wfl_m {vb vm vs vh vl vr : V} : (wfl vb vm vs vh vl vr).lookup nm = some vm := by
  unfold wfl
  rw [lookup_putF, if_neg w_mr, lookup_putF, if_neg w_ml, lookup_putF, if_neg w_mh, lookup_putF, if_neg w_ms, lookup_putF, if_pos rfl]
theorem wfl_s {vb vm vs vh vl vr : V} : (wfl vb vm vs vh vl vr).lookup ns = some vs := by
  unfold wfl
  rw [lookup_putF, if_neg w_sr, lookup_putF, if_neg w_sl, lookup_putF, if_neg w_sh, lookup_putF, if_pos rfl]
theorem wfl_h {vb vm vs vh vl vr : V} : (wfl vb vm vs vh vl vr).lookup nh = some vh := by
  unfold wfl
  rw [lookup_putF, if_neg w_hr, lookup_putF, if_neg w_hl, lookup_putF, if_pos rfl]
theorem wfl_l {vb vm vs vh vl vr : V} : (wfl vb vm vs vh vl vr).lookup nl = some vl := by
  unfold wfl
  rw [lookup_putF, if_neg w_lr, lookup_putF, if_pos rfl]
theorem wfl_r {vb vm vs vh vl vr : V} : (wfl vb vm vs vh vl vr).lookup nr = some vr := by
  unfold wfl
  rw [lookup_putF, if_pos rfl]
theorem wfl_no {vb vm vs vh vl vr : V} {f : Str} (h1 : ¬ f = nb) (h2 : ¬ f = nm) (h3 : ¬ f = ns) (h4 : ¬ f = nh) (h5 : ¬ f = nl) (h6 : ¬ f = nr) : (wfl vb vm vs vh vl vr).lookup f = none := by
  unfold wfl
  rw [lookup_putF, if_neg h6, lookup_putF, if_neg h5, lookup_putF, if_neg h4, lookup_putF, if_neg h3, lookup_putF, if_neg h2, lookup_putF, if_neg h1]
  rfl
/-- the dict from standings to their numbers -/
def kSt (s : Stg) : List Key := [kN s.1, kS s.2]
def hkvs (sts : List Stg) : List (List Key × V) := sts.zipIdx.map fun p => (kSt p.1, V.int (p.2 : Int))
theorem kSt_inj {s t : Stg} (h : kSt s = kSt t) : s = t := by
  unfold kSt at h
  injection h with h1 h2
  injection h2 with h2 _
  exact Prod.ext (kN_inj _ _ h1) (kS_inj _ _ h2)
theorem valV_idx {κ α : Type} [DecidableEq κ] (f : α → κ) (hf : ∀ a b, f a = f b → a = b) (w : Nat → V) : ∀ (l : List α) (n i : Nat) (a : α), l.Nodup → l[i]? = some a → valV ((l.zipIdx n).map fun p => (f p.1, w p.2)) (f a) = some (w (n + i))
  | [], n, i, a, _, h => by cases i <;> cases h
  | b :: l, n, 0, a, _, h => by
    cases h
    exact valV_pos rfl
  | b :: l, n, i + 1, a, hn, h => by
    rw [List.nodup_cons] at hn
    have hne : ¬ f b = f a := fun z => hn.1 (hf _ _ z ▸ List.mem_of_getElem? h)
    rw [List.zipIdx_cons, List.map_cons, valV_neg hne, valV_idx f hf w l (n + 1) i a hn.2 h]
    congr 2
    omega
theorem hkvs_at {sts : List Stg} (hn : sts.Nodup) {i : Nat} {s : Stg} (h : sts[i]? = some s) : valV (hkvs sts) (kSt s) = some (.int (i : Int)) := by
  have := valV_idx kSt (fun a b => kSt_inj) (fun n => V.int (n : Int)) sts 0 i s hn h
  rw [Nat.zero_add] at this
  exact this
/-- the dict from letters to their rows -/
def rkvs (ls : List Nat) (ps : List Addr) : List (Key × V) := (ls.zip ps).map fun p => (kS [p.1], V.ref p.2)
theorem rkvs_at : ∀ {ls : List Nat} {ps : List Addr}, ls.Nodup → ∀ {j x : Nat} {p : Addr}, ls[j]? = some x → ps[j]? = some p → valV (rkvs ls ps) (kS [x]) = some (.ref p)
  | [], _, _, j, _, _, h, _ => by cases j <;> cases h
  | _ :: _, [], _, j, _, _, _, h => by cases j <;> cases h
  | y :: ls, r :: ps, hn, 0, x, p, h1, h2 => by
    cases h1; cases h2
    exact valV_pos rfl
  | y :: ls, r :: ps, hn, j + 1, x, p, h1, h2 => by
    rw [List.nodup_cons] at hn
    have ne : ¬ kS [y] = kS [x] := fun z => by
      have := kS_inj _ _ z
      injection this with this _
      subst this
      exact hn.1 (List.mem_of_getElem? h1)
    show valV ((kS [y], V.ref r) :: rkvs ls ps) _ = _
    rw [valV_neg ne]
    exact rkvs_at hn.2 (j := j) h1 h2
/-- a web at sf, its rows L, all of them made since H0 -/
structure WAt (C : Addr) (H0 H : Hp) (b : Book) (m : Mach) (sts : List Stg) (L : List MatD) (sf : Addr) (dx : Addr) (vb vm : V) (as : Addr) (xs : List V) (ah rd : Addr) : Prop where
  fe : Fe H0 H
  ins : ∃ p0, (L.map (·.1))[0]? = some p0 ∧ H sf = some (.ins C dx (wfl vb vm (.ref as) (.ref ah) (.ref p0) (.ref rd)))
  hb : rBook H vb b
  hm : rMach H vm m
  hs : H as = some (.lst xs)
  hx : Al (rP rN rS) H xs sts
  hh : H ah = some (.dT (hkvs sts))
  hr : H rd = some (.dK (rkvs b.1 ((L.map (·.1)).tail)))
  mats : Mats H0 H L
  apart : as ∉ adr L
theorem WAt.f {C : Addr} {H0 H H' : Hp} {b : Book} {m : Mach} {sts : List Stg} {L : List MatD} {sf dx : Addr} {vb vm : V} {as : Addr} {xs : List V} {ah rd : Addr} (W : WAt C H0 H b m sts L sf dx vb vm as xs ah rd) (f : Fe H H') :
    WAt C H0 H' b m sts L sf dx vb vm as xs ah rd where
  fe := W.fe.trans f
  ins := let ⟨p0, a, b⟩ := W.ins; ⟨p0, a, f.k b⟩
  hb := Me.go W.hb f
  hm := Me.go W.hm f
  hs := f.k W.hs
  hx := Al.mo f W.hx
  hh := f.k W.hh
  hr := f.k W.hr
  mats := W.mats.fe f
  apart := W.apart
theorem map1_set {L : List MatD} {j : Nat} {m : MatD} (h : L[j]? = some m) (rows : List Row) : (L.set j (m.1, m.2.1, rows)).map (·.1) = L.map (·.1) := by
  apply List.ext_getElem?
  intro i
  rw [List.getElem?_map, List.getElem?_map, List.getElem?_set]
  by_cases e : j = i
  · subst e
    rw [if_pos rfl, if_pos (List.getElem?_eq_some_iff.mp h).1, h]; rfl
  · rw [if_neg e]
theorem WAt.put {C : Addr} {H0 H : Hp} {b : Book} {m : Mach} {sts : List Stg} {L : List MatD} {sf dx : Addr} {vb vm : V} {as : Addr} {xs : List V} {ah rd : Addr} (W : WAt C H0 H b m sts L sf dx vb vm as xs ah rd)
    {j h : Nat} {d : MatD} {q : Addr} {row : Row} {ys : List V} {v : V} {x : Nat × Nat × Unit} (hj : L[j]? = some d) (hq : d.2.1[h]? = some q) (hr : d.2.2[h]? = some row) (hy : H q = some (.lst ys)) (ha : Al rMv H ys row) (hv : rMv H v x) :
    WAt C H0 (upd H q (.lst (ys ++ [v]))) b m sts (L.set j (d.1, d.2.1, d.2.2.set h (row ++ [x]))) sf dx vb vm as xs ah rd := by
  have f : Fx [q] H (upd H q (.lst (ys ++ [v]))) := Fx.put hy (List.mem_singleton.mpr rfl) (fun _ z => nomatch z)
  have hdm := List.mem_of_getElem? hj
  have hqa : q ∈ adr L := mem_adr hdm (.inr (List.mem_of_getElem? hq))
  have h0 : H0 q = none := (W.mats.mat d hdm).new q (List.mem_of_getElem? hq)
  have nas : as ≠ q := fun z => W.apart (z ▸ hqa)
  obtain ⟨p0, i1, i2⟩ := W.ins
  exact ⟨W.fe.mut h0, ⟨p0, by rw [map1_set hj]; exact i1, by rw [upd_ne (ne_of i2 hy (fun z => nomatch z))]; exact i2⟩, Mo.mo (r := rBook) f W.hb, Mo.mo (r := rMach) f W.hm, by rw [upd_ne nas]; exact W.hs, Al.mo f W.hx,
    by rw [upd_ne (ne_of W.hh hy (fun z => nomatch z))]; exact W.hh, by rw [upd_ne (ne_of W.hr hy (fun z => nomatch z)), map1_set hj]; exact W.hr, W.mats.put hj hq hr hy ha hv, by rw [adr_set hj]; exact W.apart⟩
end Fm
namespace Fm
open PySem L2
abbrev keysOf (b : Book) : List (Option Nat) := none :: b.1.map some
/-- book, machine, standings as they must be -/
structure SOk (b : Book) (m : Mach) (sts : List Stg) : Prop where
  bk : BOk b
  mo : MOk m
  few : m.1 ≤ 60
  ln : b.1.Nodup
  ms : ∀ s ∈ m.2.2, s.2.1 ∈ b.1
  nd : sts.Nodup
  mem : ∀ s, s ∈ sts ↔ (s.1 < m.1 ∧ Rest b s.2)
theorem SOk.keys {b : Book} {m : Mach} {sts : List Stg} (o : SOk b m sts) : (keysOf b).Nodup := by
  rw [List.nodup_cons]
  refine ⟨by simp, ?_⟩
  have := o.ln
  clear o
  generalize b.1 = l at this ⊢
  induction l with
  | nil => exact List.nodup_nil
  | cons x l ih =>
    rw [List.nodup_cons] at this
    rw [List.map_cons, List.nodup_cons]
    refine ⟨fun h => ?_, ih this.2⟩
    obtain ⟨y, hy, e⟩ := List.mem_map.mp h
    cases e
    exact this.1 hy
theorem SOk.idx {b : Book} {m : Mach} {sts : List Stg} (o : SOk b m sts) {s : Stg} (h1 : s.1 < m.1) (h2 : Rest b s.2) : ∃ i : Nat, sts[i]? = some s := List.mem_iff_getElem?.mp ((o.mem s).mpr ⟨h1, h2⟩)
theorem SOk.web {b : Book} {m : Mach} {sts : List Stg} (o : SOk b m sts) : WOk (stepRows m.1 m.2.2) where
  few := by rw [stepRows_len]; exact o.few
  ok := fun row hrow p hp => by
    rw [stepRows_len]
    obtain ⟨q, hq, rfl⟩ := List.mem_map.mp hrow
    obtain ⟨s, hs, rfl⟩ := List.mem_map.mp hp
    exact (o.mo.st s (List.mem_filter.mp hs).1).2
theorem lead_em {m : Mach} (ok : MOk m) : ∀ {t : List Nat} {q p : Nat}, q < m.1 → (Lead (Ed (stepRows m.1 m.2.2)) t q p ↔ Lead (Em m) t q p)
  | [], _, _, _ => Iff.rfl
  | c :: t, q, p, h => by
    constructor
    · rintro ⟨r, h1, h2⟩
      have h3 := (stepRows_ed h).mp h1
      exact ⟨r, h3, (lead_em ok (ok.st _ h3).2).mp h2⟩
    · rintro ⟨r, h1, h2⟩
      exact ⟨r, (stepRows_ed h).mpr h1, (lead_em ok (ok.st _ h1).2).mpr h2⟩
theorem lead_em_lt {m : Mach} (ok : MOk m) {t : List Nat} {q p : Nat} (h : q < m.1) (l : Lead (Em m) t q p) : p < m.1 := lead_lt (fun _ _ _ h => (ok.st _ h).2) h l
/-- the web while its rows are filled; the machine's steps by state at a -/
structure PSt (C : Addr) (H0 H1 H : Hp) (b : Book) (m : Mach) (sts : List Stg) (L : List MatD) (S : Option Nat → Nat → Nat → Nat → Prop) (home t : Nat) (sf dx : Addr) (vb vm : V) (as : Addr) (xs : List V) (ah rd a : Addr) (rs : List Addr) : Prop where
  W : WAt C H0 H b m sts L sf dx vb vm as xs ah rd
  R : Rows sts.length (keysOf b) L S
  B : Bd home t L
  M : Mat (rP rC rN) H1 H a rs (stepRows m.1 m.2.2)
  old : ∀ x ∈ adr L, H1 x ≠ none
section
variable {C : Addr} {H0 H1 H : Hp} {b : Book} {m : Mach} {sts : List Stg} {L : List MatD} {S : Option Nat → Nat → Nat → Nat → Prop} {home t : Nat} {sf dx : Addr} {vb vm : V} {as : Addr} {xs : List V} {ah rd a : Addr} {rs : List Addr}
theorem PSt.f (p : PSt C H0 H1 H b m sts L S home t sf dx vb vm as xs ah rd a rs) {H' : Hp} (f : Fe H H') : PSt C H0 H1 H' b m sts L S home t sf dx vb vm as xs ah rd a rs := ⟨p.W.f f, p.R, p.B, p.M.fe f, p.old⟩
theorem PSt.imp (p : PSt C H0 H1 H b m sts L S home t sf dx vb vm as xs ah rd a rs) {S' : Option Nat → Nat → Nat → Nat → Prop} (h : ∀ k h to c, k ∈ keysOf b → h < sts.length → (S k h to c ↔ S' k h to c)) :
    PSt C H0 H1 H b m sts L S' home t sf dx vb vm as xs ah rd a rs := ⟨p.W, p.R.imp h, p.B, p.M, p.old⟩
/-- a row, found by its key and the standing's number -/
theorem PSt.at (p : PSt C H0 H1 H b m sts L S home t sf dx vb vm as xs ah rd a rs) {j : Nat} {k : Option Nat} (hk : (keysOf b)[j]? = some k) (hh : home < sts.length) :
    ∃ d q row ys, L[j]? = some d ∧ d.2.1[home]? = some q ∧ d.2.2[home]? = some row ∧ H q = some (.lst ys) ∧ Al rMv H ys row ∧ ys.length ≤ t ∧ H d.1 = some (.lst (d.2.1.map V.ref)) ∧ (L.map (·.1))[j]? = some d.1 := by
  have hj : j < L.length := by rw [p.R.len]; exact (List.getElem?_eq_some_iff.mp hk).1
  have hd : L[j]? = some L[j] := List.getElem?_eq_getElem hj
  have hm := List.mem_of_getElem? hd
  have hh' : home < (L[j]).2.2.length := by rw [p.R.rl _ hm]; exact hh
  have hr : (L[j]).2.2[home]? = some ((L[j]).2.2[home]'hh') := List.getElem?_eq_getElem hh'
  obtain ⟨q, ys, h1, _, h2, h3⟩ := (p.W.mats.mat _ hm).get hr
  exact ⟨L[j], q, _, ys, hd, h1, hr, h2, h3, by rw [h3.len]; exact p.B _ hm _ hr, (p.W.mats.mat _ hm).at_, by rw [List.getElem?_map, hd]; rfl⟩
/-- a move put behind it, made ahead in H' -/
theorem PSt.put (p : PSt C H0 H1 H b m sts L S home t sf dx vb vm as xs ah rd a rs) (o : SOk b m sts) {H' : Hp} (f : Fe H H') {j to c : Nat} {k : Option Nat} {d : MatD} {q U : Addr} {row : Row} {ys : List V} {y : V} (hk : (keysOf b)[j]? = some k) (hd : L[j]? = some d)
    (hq : d.2.1[home]? = some q) (hr : d.2.2[home]? = some row) (hy : H q = some (.lst ys)) (ha : Al rMv H ys row) (hU : H' U = some (.tup [.int (to : Int), .int (c : Int), y])) :
    ∃ L', PSt C H0 H1 (upd H' q (.lst (ys ++ [.ref U]))) b m sts L' (fun k' h' to' c' => S k' h' to' c' ∨ (k' = k ∧ h' = home ∧ to' = to ∧ c' = c)) home (t + 1) sf dx vb vm as xs ah rd a rs ∧ adr L' = adr L := by
  have p' := p.f f
  have hqa : q ∈ adr L := mem_adr (List.mem_of_getElem? hd) (.inr (List.mem_of_getElem? hq))
  have nq := p.old q hqa
  refine ⟨L.set j (d.1, d.2.1, d.2.2.set home (row ++ [(to, c, ())])), ⟨p'.W.put hd hq hr (f.k hy) (Al.mo f ha) ⟨U, _, _, _, rfl, hU, rfl, rfl, trivial⟩, p.R.put o.keys hk hd hr, p.B.put hd hr, ?_, ?_⟩, adr_set hd _⟩
  · have fx : Fx [q] H' (upd H' q (.lst (ys ++ [.ref U]))) := Fx.put (f.k hy) (List.mem_singleton.mpr rfl) (fun _ z => nomatch z)
    refine p'.M.keep fx (fun z => nq ?_) (fun r hr z => nq ?_)
    · rw [← List.mem_singleton.mp z]; exact p.M.newp
    · rw [← List.mem_singleton.mp z]; exact p.M.new r hr
  · rw [adr_set hd]; exact p.old
end
/-- the move of an edit from the state q -/
def EdE (m : Mach) (e : List Nat × List Nat × Nat) (k : Option Nat) (q : Nat) (s' : Stg) (c : Nat) : Prop := c = e.2.2 ∧ Lead (Em m) e.2.1 q s'.1 ∧ match k with
  | none => e.1 = [] ∧ s'.2 = []
  | some x => e.1 = x :: s'.2
def spPutEdits (C : Addr) : Sp := fun vs H Q _ => ∃ (H0 H1 : Hp) (b : Book) (m : Mach) (sts : List Stg) (L : List MatD) (S : Option Nat → Nat → Nat → Nat → Prop) (home t q : Nat) (sf dx : Addr) (vb vm : V) (as : Addr) (xs : List V) (ah rd a : Addr) (rs : List Addr),
  vs = [.ref sf, .ref a, .int (home : Int), .int (q : Int)] ∧ PSt C H0 H1 H b m sts L S home t sf dx vb vm as xs ah rd a rs ∧ SOk b m sts ∧ sts[home]? = some (q, []) ∧ t ≤ 1000 ∧
  ∀ (H' : Hp) (L' : List MatD) (t' : Nat), PSt C H0 H1 H' b m sts L' (fun k h to c => S k h to c ∨ (h = home ∧ ∃ s', sts[to]? = some s' ∧ ∃ e, e ∈ b.2 ∧ EdE m e k q s' c)) home t' sf dx vb vm as xs ah rd a rs → adr L' = adr L → Q .non H'
theorem str_nil : ("" : Str) = ⟨([] : List Nat).toArray⟩ := by decide +kernel
theorem at_head (l : List Nat) (x : Nat) : atI (⟨(x :: l).toArray⟩ : Str).cps.toList 0 = some x := by
  show atI (x :: l) ((0 : Nat) : Int) = some x
  exact atI_nat rfl
theorem cut_tail (l : List Nat) (x : Nat) : cutS ⟨(x :: l).toArray⟩ (some 1) none = ⟨l.toArray⟩ := by
  have := cut_from (x :: l) 1
  exact this
theorem dec_str_nil (l : List Nat) : decide (V.str ⟨l.toArray⟩ = V.str "") = decide (l = []) := by
  rw [str_nil]
  by_cases h : l = []
  · subst h; rw [decide_eq_true rfl, decide_eq_true rfl]
  · rw [decide_eq_false h, decide_eq_false]
    intro z
    exact h (str_inj (V.str.inj z))
section
variable {P : Program} {w : World} {K : PySem.W.Frag} {g : Str → Option Value} {base : Heap}
theorem ok_MoveWeb_put_edits (T : Txt K g) : FnOk P w K g base CX0 3 T.d_MoveWeb_put_edits.f T.d_MoveWeb_put_edits.fd P_MoveWeb_put_edits (spPutEdits T.c_MoveWeb) := by
  refine T.d_MoveWeb_put_edits.F.ok sc_MoveWeb_put_edits (fun vs H Q E h => ?_) (fun cdv A outer s H vs Q E hr h => ?_)
  · obtain ⟨_, _, _, _, _, _, _, _, _, _, _, _, _, _, _, _, _, _, _, _, rfl, _⟩ := h
    rfl
  · obtain ⟨H0, H1, b, m, sts, L, S, home, t, q, sf, dx, vb, vm, as, xs, ah, rd, a, rs, rfl, p, o, hst, ht, kk⟩ := h
    have hu := hu_of hr
    refine ⟨_, (pss_one (ps_for PassesOwn.never rfl (ki_tup (K := K) rfl (pe_ix (kx_tup (K := K) rfl) (ke_fld (K := K) rfl (pv 0) rfl) pe_int (fun _ _ => rfl))) (kg_tup (K := K) 3 rfl rfl (pgs_cons (pg_name (i := 4) sc_MoveWeb_put_edits.nd rfl (by first | exact Or.inl rfl | exact Or.inr rfl)) (pgs_cons (pg_name (i := 5) sc_MoveWeb_put_edits.nd rfl (by first | exact Or.inl rfl | exact Or.inr rfl)) (pgs_cons (pg_name (i := 6) sc_MoveWeb_put_edits.nd rfl (by first | exact Or.inl rfl | exact Or.inr rfl)) pgs_nil))))
      (pss_one (ps_for PassesOwn.never rfl (ki_tup (K := K) rfl (pe_call (ok_states_along T) (hr.mono (by decide)) rfl T.d_states_along.mg T.d_states_along.kp T.d_states_along.b .nil pass0 (pa_cons (pv 1) (pa_cons (pe_tup (pa_cons (pv 3) pa_nil)) (pa_cons (pv 5) pa_nil))))) (pg_name (i := 7) sc_MoveWeb_put_edits.nd rfl (by first | exact Or.inl rfl | exact Or.inr rfl))
        (pss_one (ps_if (pt_cmpR op_eq (pv 4) pe_str (nomark _))
          (pss_one (ps_expr (ke_bm (K := K) rfl PySem.F.plainAttrs_list PySem.F.slot_list_append PySem.F.type_list_append mt_append (pe_ix (kx_list (K := K) rfl) (ke_fld (K := K) rfl (pv 0) rfl) (pv 2) (fun _ _ => rfl)) (pa_cons (pe_tup (pa_cons (pe_dget hu (ke_fld (K := K) rfl (pv 0) rfl) (pe_tup (pa_cons (pv 7) (pa_cons pe_str pa_nil))) (fun _ _ => rfl)) (pa_cons (pv 6) (pa_cons (pe_tup (pa_cons (pv 4) (pa_cons (pv 5) pa_nil))) pa_nil)))) pa_nil))))
          (pss_one (ps_expr (ke_bm (K := K) rfl PySem.F.plainAttrs_list PySem.F.slot_list_append PySem.F.type_list_append mt_append (pe_ix (kx_list (K := K) rfl) (pe_dget hu (ke_fld (K := K) rfl (pv 0) rfl) (pe_ix ix_str (pv 4) pe_int (fun _ _ => rfl)) (fun _ _ => rfl)) (pv 2) (fun _ _ => rfl)) (pa_cons (pe_tup (pa_cons (pe_dget hu (ke_fld (K := K) rfl (pv 0) rfl) (pe_tup (pa_cons (pv 7) (pa_cons (pe_slice sl_str (pv 4) (po_some pe_int) po_none) pa_nil))) (fun _ _ => rfl)) (pa_cons (pv 6) (pa_cons (pe_tup (pa_cons (pv 4) (pa_cons (pv 5) pa_nil))) pa_nil)))) pa_nil)))))))))), ?_⟩
    obtain ⟨p0, hp0, hins⟩ := p.W.ins
    obtain ⟨bk, vl, ve, rfl, hbk, rfl, hed⟩ := id p.W.hb
    obtain ⟨c, eds, rfl, hc, heds⟩ := id hed
    have hhome : home < sts.length := (List.getElem?_eq_some_iff.mp hst).1
    have hq : q < m.1 := ((o.mem (q, [])).mp (List.mem_of_getElem? hst)).1
    have hn := o.bk.few
    refine ⟨_, rfl, sf, _, dx, _, _, rfl, hins, T.cl_MoveWeb, T.na_MoveWeb_book, wfl_b, bk, _, _, _, rfl, rfl, SqT.of hbk, rfl, c, rfl, ⟨_, SqT.of hc⟩, for_tup (K := K) (a := c) (xs := eds) (fun i σ' H' => ∃ (L' : List MatD) (t' : Nat) (o1 o2 o3 o4 : Option V),
      σ' = [some (.ref sf), some (.ref a), some (.int (home : Int)), some (.int (q : Int)), o1, o2, o3, o4] ∧ H' c = some (.tup eds) ∧ Al (rP3 rS rS rN) H' eds b.2 ∧ t' ≤ t + 60 * i ∧ adr L' = adr L ∧
      PSt T.c_MoveWeb H0 H1 H' b m sts L' (fun k h to c => S k h to c ∨ (h = home ∧ ∃ s', sts[to]? = some s' ∧ ∃ e, e ∈ b.2.take i ∧ EdE m e k q s' c)) home t' sf dx (.ref bk) vm as xs ah rd a rs)
      ⟨L, t, none, none, none, none, rfl, hc, heds, by omega, rfl, p.imp fun k h to c _ _ => ⟨.inl, fun z => z.elim id fun ⟨_, s', _, e, he, _⟩ => nomatch he⟩⟩ (fun i σ' H' _ ⟨_, _, _, _, _, _, _, e, _⟩ => SqT.of e) ?_ ?_⟩
    · rintro i x σ' H' hx ⟨L1, t1, o1, o2, o3, o4, rfl, hcH, hedsH, ht1, hadr, p1⟩
      obtain ⟨ed, hed, hxr⟩ := hedsH.get hx
      obtain ⟨u, x1, x2, x3, rfl, hu2, rfl, rfl, rfl⟩ := id hxr
      have hem : ed ∈ b.2 := List.mem_of_getElem? hed
      refine ⟨u, _, rfl, SqT.of hu2, rfl, _, _, rfl, _, _, rfl, _, _, rfl, rfl, ?_⟩
      -- for to in states_along(rows, (state,), write)
      refine ⟨_, rfl, _, rfl, by show 1 ≤ sizeLine; decide, fun U hU => ?_⟩
      have fU : Fe H' (upd H' U (.tup [.int (q : Int)])) := Fe.new hU
      have p2 := p1.f fU
      refine ⟨_, rfl, stepRows m.1 m.2.2, [q], ed.2.1, .ref a, .ref U, rfl, p2.M.rl, ⟨U, _, rfl, upd_same, .cons rfl .nil⟩, o.web, ?_, by simp, fun v H2 l e2 hl hln hm => ?_⟩
      · intro r hr
        rw [List.mem_singleton.mp hr, stepRows_len]; exact hq
      obtain ⟨al, ls, rfl, hal, hls⟩ := id hl
      have p3 := p2.f e2
      have f2 := fU.trans e2
      have hm' : ∀ r, r ∈ l ↔ Lead (Em m) ed.2.1 q r := fun r => by
        rw [hm r, ← lead_em o.mo hq]
        exact ⟨fun ⟨z, h1, h2⟩ => by rw [List.mem_singleton.mp h1] at h2; exact h2, fun h => ⟨q, List.mem_singleton.mpr rfl, h⟩⟩
      refine ⟨al, rfl, ⟨_, SqT.of hal⟩, for_tup (K := K) (a := al) (xs := ls) (fun j σ' H' => ∃ (L' : List MatD) (o4 : Option V),
        σ' = [some (.ref sf), some (.ref a), some (.int (home : Int)), some (.int (q : Int)), some (.str ⟨ed.1.toArray⟩), some (.str ⟨ed.2.1.toArray⟩), some (.int (ed.2.2 : Int)), o4] ∧ H' c = some (.tup eds) ∧ Al (rP3 rS rS rN) H' eds b.2 ∧ H' al = some (.tup ls) ∧ adr L' = adr L ∧
        PSt T.c_MoveWeb H0 H1 H' b m sts L' (fun k h to c => (S k h to c ∨ (h = home ∧ ∃ s', sts[to]? = some s' ∧ ∃ e, e ∈ b.2.take i ∧ EdE m e k q s' c)) ∨ (h = home ∧ ∃ s', sts[to]? = some s' ∧ s'.1 ∈ l.take j ∧ EdE m ed k q s' c)) home (t1 + j) sf dx (.ref bk) vm as xs ah rd a rs)
        ⟨L1, o4, rfl, f2.k hcH, Al.mo f2 hedsH, hal, hadr, p3.imp fun k h to c _ _ => ⟨.inl, fun z => z.elim id fun ⟨_, s', _, e, _⟩ => nomatch e⟩⟩ (fun i σ' H' _ ⟨_, _, _, _, _, e, _⟩ => SqT.of e) ?_ ?_⟩
      · rintro j x σ' H3 hx ⟨L3, o4, rfl, hc3, heds3, hal3, hadr3, p4⟩
        obtain ⟨r, hr2, rfl⟩ := hls.get hx
        have hrl : Lead (Em m) ed.2.1 q r := (hm' r).mp (List.mem_of_getElem? hr2)
        have hrm : r < m.1 := lead_em_lt o.mo hq hrl
        have hjl : l.take (j + 1) = l.take j ++ [r] := by rw [List.take_add_one, hr2]; rfl
        have hlen60 : j < 60 := by
          have h1 := nodup_below m.1 l hln fun r hr => lead_em_lt o.mo hq ((hm' r).mp hr)
          have h2 := (List.getElem?_eq_some_iff.mp hr2).1
          have h3 := o.few
          omega
        have hil : i < 60 := by
          have := (List.getElem?_eq_some_iff.mp hed).1
          omega
        obtain ⟨p0', hp0', hins3⟩ := p4.W.ins
        refine ⟨_, rfl, rfl, _, rfl, ?_⟩
        rw [dec_str_nil]
        cases hrd : ed.1 with
        | nil =>
          rw [decide_eq_true rfl]
          refine iteT ?_
          obtain ⟨idx, hidx⟩ := o.idx (s := (r, [])) hrm (.inl rfl)
          obtain ⟨d, qq, row, ys, hd, hqq, hrow, hys, hal4, hyl, hd1, hd2⟩ := p4.at (j := 0) (k := none) rfl hhome
          have e0 : p0' = d.1 := by rw [hp0'] at hd2; exact Option.some.inj hd2
          subst e0
          -- self.silent[home].append((self.homes[(to, "")], cost, (read, write)))
          refine ⟨_, rfl, sf, _, dx, _, _, rfl, hins3, T.cl_MoveWeb, T.na_MoveWeb_silent, wfl_l, _, rfl, d.1, _, _, .ref qq, rfl, rfl, SqL.of hd1, atI_nat (by rw [List.getElem?_map, hqq]; rfl), .inl ⟨rfl, _, SqL.of hys⟩, ?_⟩
          refine ⟨_, rfl, sf, _, dx, _, _, rfl, hins3, T.cl_MoveWeb, T.na_MoveWeb_homes, wfl_h, _, rfl, by show 2 ≤ sizeLine; decide, fun U1 hU1 => ?_⟩
          have f1 : Fe H3 (upd H3 U1 (.tup [.int (r : Int), .str ""])) := Fe.new hU1
          have g1 : upd H3 U1 (.tup [.int (r : Int), .str ""]) U1 = some (.tup ((kSt (r, [])).map kV)) := by rw [upd_same, str_nil]; rfl
          refine ⟨ah, .int (idx : Int), rfl, by rw [← hkvs_at o.nd hidx]; exact DGet.t (f1.k p4.W.hh) g1, ?_⟩
          refine ⟨_, rfl, _, rfl, _, rfl, by show 2 ≤ sizeLine; decide, fun U2 hU2 => ?_⟩
          have f2' := f1.trans (Fe.new (o := .tup [.str ⟨([] : List Nat).toArray⟩, .str ⟨ed.2.1.toArray⟩]) hU2)
          refine ⟨by show 3 ≤ sizeLine; decide, fun U3 hU3 => ?_⟩
          have f3 := f2'.trans (Fe.new (o := .tup [.int (idx : Int), .int (ed.2.2 : Int), .ref U2]) hU3)
          refine ⟨qq, ys, _, rfl, rfl, f3.k hys, by rw [sizeLine_eq]; omega, ?_⟩
          obtain ⟨L', p5, ha5⟩ := p4.put o f3 rfl hd hqq hrow hys hal4 (to := idx) (c := ed.2.2) (y := .ref U2) upd_same
          have cne : c ≠ qq := by
            intro z; rw [z, hys] at hc3; cases hc3
          have ane : al ≠ qq := by
            intro z; rw [z, hys] at hal3; cases hal3
          have fq : Fx [qq] _ _ := Fx.put (o := .lst (ys ++ [.ref U3])) (f3.k hys) (List.mem_singleton.mpr rfl) (fun _ z => nomatch z)
          refine ⟨L', _, rfl, by rw [upd_ne cne]; exact f3.k hc3, Al.mo fq (Al.mo f3 heds3), by rw [upd_ne ane]; exact f3.k hal3, by rw [ha5, hadr3], p5.imp fun k h to c hk hh => ?_⟩
          rw [hjl]
          constructor
          · rintro ((z | ⟨rfl, s', h1, h2, h3⟩) | ⟨rfl, rfl, rfl, rfl⟩)
            · exact .inl z
            · exact .inr ⟨rfl, s', h1, List.mem_append_left _ h2, h3⟩
            · exact .inr ⟨rfl, (r, []), hidx, List.mem_append_right _ (List.mem_singleton.mpr rfl), rfl, hrl, hrd, rfl⟩
          · rintro (z | ⟨rfl, s', h1, h2, h3⟩)
            · exact .inl (.inl z)
            · rcases List.mem_append.mp h2 with h2 | h2
              · exact .inl (.inr ⟨rfl, s', h1, h2, h3⟩)
              · have e1 : s'.1 = r := List.mem_singleton.mp h2
                obtain ⟨hc', _, hk'⟩ := h3
                cases k with
                | none =>
                  have e2 : s' = (r, []) := Prod.ext e1 hk'.2
                  subst e2
                  exact .inr ⟨rfl, rfl, nd_ix o.nd h1 hidx, hc'⟩
                | some x =>
                  have hk' : ed.1 = x :: s'.2 := hk'
                  rw [hrd] at hk'; cases hk'
        | cons x rd' =>
          rw [decide_eq_false (by intro z; cases z)]
          refine iteF ?_
          have hxl : x ∈ b.1 := o.bk.lets ed hem x (by rw [hrd]; exact List.mem_cons_self)
          obtain ⟨jj, hjj⟩ := List.mem_iff_getElem?.mp hxl
          have hrest : Rest b rd' := by
            cases rd' with
            | nil => exact .inl rfl
            | cons y rd'' => exact .inr ⟨ed, 1, hem, by omega, by rw [hrd]; simp, by rw [hrd]; rfl⟩
          obtain ⟨idx, hidx⟩ := o.idx (s := (r, rd')) hrm hrest
          have hkj : (keysOf b)[jj + 1]? = some (some x) := by
            show (b.1.map some)[jj]? = _
            rw [List.getElem?_map, hjj]; rfl
          obtain ⟨d, qq, row, ys, hd, hqq, hrow, hys, hal4, hyl, hd1, hd2⟩ := p4.at hkj hhome
          have hd2' : ((L3.map (·.1)).tail)[jj]? = some d.1 := by rw [List.getElem?_tail]; exact hd2
          -- self.reading[read[0]][home].append((self.homes[(to, read[1:])], cost, (read, write)))
          refine ⟨_, rfl, sf, _, dx, _, _, rfl, hins3, T.cl_MoveWeb, T.na_MoveWeb_reading, wfl_r, _, rfl, _, 0, x, rfl, rfl, by rw [slen, sizeLine_eq]; have := o.bk.len ed hem; rw [hrd] at this; omega, at_head rd' x, ?_⟩
          refine ⟨rd, .ref d.1, rfl, by rw [← rkvs_at o.ln hjj hd2']; exact DGet.k (k := kS [x]) p4.W.hr, _, rfl, d.1, _, _, .ref qq, rfl, rfl, SqL.of hd1, atI_nat (by rw [List.getElem?_map, hqq]; rfl), .inl ⟨rfl, _, SqL.of hys⟩, ?_⟩
          refine ⟨_, rfl, sf, _, dx, _, _, rfl, hins3, T.cl_MoveWeb, T.na_MoveWeb_homes, wfl_h, _, rfl, _, rfl, 1, rfl, _, rfl, by rw [slen, sizeLine_eq]; have := o.bk.len ed hem; rw [hrd] at this; omega, by show 2 ≤ sizeLine; decide, fun U1 hU1 => ?_⟩
          rw [cut_tail]
          have f1 : Fe H3 (upd H3 U1 (.tup [.int (r : Int), .str ⟨rd'.toArray⟩])) := Fe.new hU1
          have g1 : upd H3 U1 (.tup [.int (r : Int), .str ⟨rd'.toArray⟩]) U1 = some (.tup ((kSt (r, rd')).map kV)) := by rw [upd_same]; rfl
          refine ⟨ah, .int (idx : Int), rfl, by rw [← hkvs_at o.nd hidx]; exact DGet.t (f1.k p4.W.hh) g1, ?_⟩
          refine ⟨_, rfl, _, rfl, _, rfl, by show 2 ≤ sizeLine; decide, fun U2 hU2 => ?_⟩
          have f2' := f1.trans (Fe.new (o := .tup [.str ⟨(x :: rd').toArray⟩, .str ⟨ed.2.1.toArray⟩]) hU2)
          refine ⟨by show 3 ≤ sizeLine; decide, fun U3 hU3 => ?_⟩
          have f3 := f2'.trans (Fe.new (o := .tup [.int (idx : Int), .int (ed.2.2 : Int), .ref U2]) hU3)
          refine ⟨qq, ys, _, rfl, rfl, f3.k hys, by rw [sizeLine_eq]; omega, ?_⟩
          obtain ⟨L', p5, ha5⟩ := p4.put o f3 hkj hd hqq hrow hys hal4 (to := idx) (c := ed.2.2) (y := .ref U2) upd_same
          have cne : c ≠ qq := by
            intro z; rw [z, hys] at hc3; cases hc3
          have ane : al ≠ qq := by
            intro z; rw [z, hys] at hal3; cases hal3
          have fq : Fx [qq] _ _ := Fx.put (o := .lst (ys ++ [.ref U3])) (f3.k hys) (List.mem_singleton.mpr rfl) (fun _ z => nomatch z)
          refine ⟨L', _, rfl, by rw [upd_ne cne]; exact f3.k hc3, Al.mo fq (Al.mo f3 heds3), by rw [upd_ne ane]; exact f3.k hal3, by rw [ha5, hadr3], p5.imp fun k h to c hk hh => ?_⟩
          rw [hjl]
          constructor
          · rintro ((z | ⟨rfl, s', h1, h2, h3⟩) | ⟨rfl, rfl, rfl, rfl⟩)
            · exact .inl z
            · exact .inr ⟨rfl, s', h1, List.mem_append_left _ h2, h3⟩
            · exact .inr ⟨rfl, (r, rd'), hidx, List.mem_append_right _ (List.mem_singleton.mpr rfl), rfl, hrl, hrd⟩
          · rintro (z | ⟨rfl, s', h1, h2, h3⟩)
            · exact .inl (.inl z)
            · rcases List.mem_append.mp h2 with h2 | h2
              · exact .inl (.inr ⟨rfl, s', h1, h2, h3⟩)
              · have e1 : s'.1 = r := List.mem_singleton.mp h2
                obtain ⟨hc', _, hk'⟩ := h3
                cases k with
                | none =>
                  rw [hrd] at hk'; cases hk'.1
                | some y =>
                  have hk' : ed.1 = y :: s'.2 := hk'
                  rw [hrd] at hk'
                  injection hk' with e2 e3
                  have e4 : s' = (r, rd') := Prod.ext e1 e3.symm
                  subst e4
                  exact .inr ⟨by rw [e2], rfl, nd_ix o.nd h1 hidx, hc'⟩
      · rintro σ' H3 ⟨L3, o4, rfl, hc3, heds3, hal3, hadr3, p4⟩
        have hl60 : l.length ≤ 60 := by
          have h1 := nodup_below m.1 l hln fun r hr => lead_em_lt o.mo hq ((hm' r).mp hr)
          have h3 := o.few
          omega
        refine ⟨L3, _, _, _, _, _, rfl, hc3, heds3, by rw [hls.len]; omega, hadr3, p4.imp fun k h to c _ _ => ?_⟩
        rw [hls.len, List.take_length, List.take_add_one, hed]
        constructor
        · rintro ((z | ⟨rfl, s', h1, e, h2, h3⟩) | ⟨rfl, s', h1, h2, h3⟩)
          · exact .inl z
          · exact .inr ⟨rfl, s', h1, e, List.mem_append_left _ h2, h3⟩
          · exact .inr ⟨rfl, s', h1, ed, List.mem_append_right _ (List.mem_singleton.mpr rfl), h3⟩
        · rintro (z | ⟨rfl, s', h1, e, h2, h3⟩)
          · exact .inl (.inl z)
          · rcases List.mem_append.mp h2 with h2 | h2
            · exact .inl (.inr ⟨rfl, s', h1, e, h2, h3⟩)
            · have e2 : e = ed := List.mem_singleton.mp h2
              subst e2
              exact .inr ⟨rfl, s', h1, (hm' _).mpr h3.2.1, h3⟩
    · rintro σ' H' ⟨L', t', o1, o2, o3, o4, rfl, _, _, _, hadr, p'⟩
      refine kk H' L' t' (p'.imp fun k h to c _ _ => ?_) hadr
      rw [heds.len, List.take_length]
end
end Fm
namespace Fm
open PySem L2
abbrev s1 (c : Nat) : V := .str ⟨#[c]⟩
def alph : List Nat := (List.range 26).map (· + 97)
theorem alph_eq : ("abcdefghijklmnopqrstuvwxyz" : Str) = ⟨alph.toArray⟩ := by decide +kernel
theorem alph_nd : alph.Nodup := by decide +kernel
def spLetters : Sp := fun vs H Q _ => ∃ (p g : Addr) (n : Nat), vs = [.ref p, .int (n : Int)] ∧ Pl H p g ∧ 0 < n ∧ n ≤ 20 ∧ ∀ (l : List Nat) (H' : Hp), Fx [p, g] H H' → Pl H' p g → l.Nodup → l ≠ [] → l.length ≤ n → Q (.str ⟨l.toArray⟩) H'
def spText : Sp := fun vs H Q _ => ∃ (p g : Addr) (ls : List Nat) (n : Nat), vs = [.ref p, .str ⟨ls.toArray⟩, .int (n : Int)] ∧ Pl H p g ∧ ls ≠ [] ∧ ls.length ≤ 1000 ∧ n ≤ 1000 ∧ ∀ (t : List Nat) (H' : Hp), Fx [p, g] H H' → Pl H' p g → (∀ x ∈ t, x ∈ ls) → t.length ≤ n → Q (.str ⟨t.toArray⟩) H'
def spPair : Sp := fun vs H Q _ => ∃ (p g : Addr), vs = [.ref p] ∧ Pl H p g ∧ ∀ (q : Addr) (a b : Nat) (H' : Hp), Fx [p, g] H H' → Pl H' p g → H' q = some (.lst [s1 a, s1 b]) → a ≠ b → Q (.ref q) H'
theorem str_app (a : List Nat) (c : Nat) : (⟨(a ++ [c]).toArray⟩ : Str) = ⟨a.toArray⟩ ++ ⟨#[c]⟩ := by
  have := SX.S_cat a [c]
  exact this.symm
theorem map_erase {α β : Type} (f : α → β) : ∀ (l : List α) (k : Nat), (l.map f).eraseIdx k = (l.eraseIdx k).map f
  | [], _ => rfl
  | _ :: _, 0 => rfl
  | x :: l, k + 1 => by rw [List.map_cons, List.eraseIdx_cons_succ, List.eraseIdx_cons_succ, List.map_cons, map_erase f l k]
theorem erase_at {l : List Nat} {k : Nat} {y : Nat} (h : l[k]? = some y) : (y :: l.eraseIdx k).Perm l := erase_perm l k y h
section
variable {P : Program} {w : World} {K : PySem.W.Frag} {g : Str → Option Value} {base : Heap}
end
end Fm
namespace Fm
open PySem L2
/-- which moves lead from the standing of number h: those of the document -/
def Told (b : Book) (m : Mach) (sts : List Stg) (k : Option Nat) (h to c : Nat) : Prop := ∃ s s', sts[h]? = some s ∧ sts[to]? = some s' ∧ Mv b m k s s' c
def spPutMoves (C : Addr) : Sp := fun vs H Q _ => ∃ (H0 H1 : Hp) (b : Book) (m : Mach) (sts : List Stg) (L : List MatD) (sf dx : Addr) (vb vm : V) (as : Addr) (xs : List V) (ah rd a : Addr) (rs : List Addr),
  vs = [.ref sf, .ref a] ∧ PSt C H0 H1 H b m sts L (fun _ _ _ _ => False) 0 0 sf dx vb vm as xs ah rd a rs ∧ SOk b m sts ∧ sts.length ≤ 100000 ∧
  ∀ (H' : Hp) (L' : List MatD), WAt C H0 H' b m sts L' sf dx vb vm as xs ah rd → Rows sts.length (keysOf b) L' (Told b m sts) → Q .non H'
theorem mv_rest {b : Book} {m : Mach} {k : Option Nat} {q y : Nat} {r : List Nat} {s' : Stg} {c : Nat} : Mv b m k (q, y :: r) s' c ↔ (k = some y ∧ s' = (q, r) ∧ c = 0) := by
  cases k with
  | none => exact ⟨fun h => (by cases h.1), fun h => (by cases h.1)⟩
  | some x =>
    constructor
    · rintro (⟨r', h1, h2, h3⟩ | ⟨h, _⟩ | ⟨h, _⟩)
      · cases h1; exact ⟨rfl, h2, h3⟩
      · cases h
      · cases h
    · rintro ⟨h1, h2, h3⟩
      cases h1
      exact .inl ⟨r, rfl, h2, h3⟩
theorem mv_nil {b : Book} {m : Mach} {k : Option Nat} {q : Nat} {s' : Stg} {c : Nat} : Mv b m k (q, []) s' c ↔ ((∃ x, k = some x ∧ s'.2 = [] ∧ Em m q x s'.1 ∧ c = 0) ∨ ∃ e, e ∈ b.2 ∧ EdE m e k q s' c) := by
  cases k with
  | none =>
    constructor
    · rintro ⟨_, h2, wr, h3, h4⟩
      exact .inr ⟨_, h3, rfl, h4, rfl, h2⟩
    · rintro (⟨x, h, _⟩ | ⟨⟨rd, wr, c'⟩, h1, rfl, h2, h3, h4⟩)
      · cases h
      · have h3 : rd = [] := h3
        subst h3
        exact ⟨rfl, h4, wr, h1, h2⟩
  | some x =>
    constructor
    · rintro (⟨r', h1, _⟩ | ⟨_, h1, h2, h3⟩ | ⟨_, rd, wr, h1, h2, h3⟩)
      · cases h1
      · exact .inl ⟨x, rfl, h1, h2, h3⟩
      · exact .inr ⟨_, h1, rfl, h3, by rw [h2]⟩
    · rintro (⟨y, h, h1, h2, h3⟩ | ⟨⟨rd, wr, c'⟩, h1, rfl, h2, h3⟩)
      · cases h
        exact .inr (.inl ⟨rfl, h1, h2, h3⟩)
      · have h3 : rd = x :: s'.2 := h3
        subst h3
        exact .inr (.inr ⟨rfl, s'.2, wr, h1, rfl, h2⟩)
section
variable {P : Program} {w : World} {K : PySem.W.Frag} {g : Str → Option Value} {base : Heap}
theorem ok_MoveWeb_put_moves (T : Txt K g) : FnOk P w K g base CX0 4 T.d_MoveWeb_put_moves.f T.d_MoveWeb_put_moves.fd P_MoveWeb_put_moves (spPutMoves T.c_MoveWeb) := by
  refine T.d_MoveWeb_put_moves.F.ok sc_MoveWeb_put_moves (fun vs H Q E h => ?_) (fun cdv A outer s H vs Q E hr h => ?_)
  · obtain ⟨_, _, _, _, _, _, _, _, _, _, _, _, _, _, _, _, rfl, _⟩ := h
    rfl
  · obtain ⟨H0, H1, b, m, sts, L, sf, dx, vb, vm, as, xs, ah, rd, a, rs, rfl, p, o, hsz, kk⟩ := h
    have hu := hu_of hr
    refine ⟨_, (pss_one (ps_for PassesOwn.never rfl (ki_enum (K := K) rfl rfl T.z_enumerate (pa_cons (ke_fld (K := K) rfl (pv 0) rfl) pa_nil)) (kg_tup (K := K) 2 rfl rfl (pgs_cons (pg_name (i := 2) sc_MoveWeb_put_moves.nd rfl (by first | exact Or.inl rfl | exact Or.inr rfl)) (pgs_cons (kg_tup (K := K) 2 rfl rfl (pgs_cons (pg_name (i := 3) sc_MoveWeb_put_moves.nd rfl (by first | exact Or.inl rfl | exact Or.inr rfl)) (pgs_cons (pg_name (i := 4) sc_MoveWeb_put_moves.nd rfl (by first | exact Or.inl rfl | exact Or.inr rfl)) pgs_nil))) pgs_nil)))
      (pss_one (ps_if (kt_truth (K := K) rfl (pv 4))
        (pss_one (ps_expr (ke_bm (K := K) rfl PySem.F.plainAttrs_list PySem.F.slot_list_append PySem.F.type_list_append mt_append (pe_ix (kx_list (K := K) rfl) (pe_dget hu (ke_fld (K := K) rfl (pv 0) rfl) (pe_ix ix_str (pv 4) pe_int (fun _ _ => rfl)) (fun _ _ => rfl)) (pv 2) (fun _ _ => rfl)) (pa_cons (pe_tup (pa_cons (pe_dget hu (ke_fld (K := K) rfl (pv 0) rfl) (pe_tup (pa_cons (pv 3) (pa_cons (pe_slice sl_str (pv 4) (po_some pe_int) po_none) pa_nil))) (fun _ _ => rfl)) (pa_cons pe_int (pa_cons pe_non pa_nil)))) pa_nil))))
        (pss_cons (ps_for PassesOwn.never rfl (ki_list (K := K) rfl (pe_ix (kx_list (K := K) rfl) (pv 1) (pv 3) (fun _ _ => rfl))) (kg_tup (K := K) 2 rfl rfl (pgs_cons (pg_name (i := 5) sc_MoveWeb_put_moves.nd rfl (by first | exact Or.inl rfl | exact Or.inr rfl)) (pgs_cons (pg_name (i := 6) sc_MoveWeb_put_moves.nd rfl (by first | exact Or.inl rfl | exact Or.inr rfl)) pgs_nil)))
          (pss_one (ps_expr (ke_bm (K := K) rfl PySem.F.plainAttrs_list PySem.F.slot_list_append PySem.F.type_list_append mt_append (pe_ix (kx_list (K := K) rfl) (pe_dget hu (ke_fld (K := K) rfl (pv 0) rfl) (pv 5) (fun _ _ => rfl)) (pv 2) (fun _ _ => rfl)) (pa_cons (pe_tup (pa_cons (pe_dget hu (ke_fld (K := K) rfl (pv 0) rfl) (pe_tup (pa_cons (pv 6) (pa_cons pe_str pa_nil))) (fun _ _ => rfl)) (pa_cons pe_int (pa_cons (pe_tup (pa_cons (pv 5) (pa_cons (pv 5) pa_nil))) pa_nil)))) pa_nil)))))
        (pss_one (ps_expr (pe_meth (pv 0) T.cl_MoveWeb T.d_MoveWeb_put_edits.m (ok_MoveWeb_put_edits T) (hr.mono (by decide)) T.d_MoveWeb_put_edits.b .nil pass0 (pa_cons (pv 1) (pa_cons (pv 2) (pa_cons (pv 3) pa_nil))))))))))), ?_⟩
    obtain ⟨p0, hp0, hins⟩ := p.W.ins
    refine ⟨_, rfl, sf, _, dx, _, _, rfl, hins, T.cl_MoveWeb, T.na_MoveWeb_standings, wfl_s, as, xs, rfl, SqL.of p.W.hs, for_enum (xs := xs) (fun i σ' H' => ∃ (L' : List MatD) (o1 o2 o3 o4 o5 : Option V),
      σ' = [some (.ref sf), some (.ref a), o1, o2, o3, o4, o5] ∧ adr L' = adr L ∧ PSt T.c_MoveWeb H0 H1 H' b m sts L' (fun k h to c => h < i ∧ Told b m sts k h to c) i 0 sf dx vb vm as xs ah rd a rs)
      ⟨L, none, none, none, none, none, rfl, rfl, p.imp fun k h to c _ _ => ⟨fun z => z.elim, fun z => by omega⟩⟩ (fun i σ' H' _ ⟨_, _, _, _, _, _, _, _, p'⟩ => p'.W.hs) ?_ ?_⟩
    · rintro i x σ' H' U hx ⟨L1, o1, o2, o3, o4, o5, rfl, hadr, p1⟩ hU
      obtain ⟨⟨q, rest⟩, hst, hxr⟩ := p1.W.hx.get hx
      obtain ⟨u, x1, x2, rfl, hu2, rfl, rfl⟩ := id hxr
      have hih : i < sts.length := (List.getElem?_eq_some_iff.mp hst).1
      have hsm := (o.mem (q, rest)).mp (List.mem_of_getElem? hst)
      have hq : q < m.1 := hsm.1
      have fU : Fe H' (upd H' U (.tup [.int (i : Int), .ref u])) := Fe.new hU
      refine ⟨U, _, rfl, SqT.of upd_same, rfl, _, _, rfl, _, _, rfl, u, _, rfl, SqT.of (fU.k hu2), rfl, _, _, rfl, _, _, rfl, rfl, rfl, ?_⟩
      have p2 := p1.f fU
      -- what is due behind this standing
      have fin : ∀ {H2 : Hp} {L2 : List MatD} {S2 : Option Nat → Nat → Nat → Nat → Prop} {t2 : Nat}, PSt T.c_MoveWeb H0 H1 H2 b m sts L2 S2 i t2 sf dx vb vm as xs ah rd a rs →
          (∀ k h to c, k ∈ keysOf b → (S2 k h to c ↔ (h < i ∧ Told b m sts k h to c) ∨ (h = i ∧ ∃ s', sts[to]? = some s' ∧ Mv b m k (q, rest) s' c))) →
          PSt T.c_MoveWeb H0 H1 H2 b m sts L2 (fun k h to c => h < i + 1 ∧ Told b m sts k h to c) (i + 1) 0 sf dx vb vm as xs ah rd a rs := fun p3 hS => by
        have R := p3.R.imp (S' := fun k h to c => h < i + 1 ∧ Told b m sts k h to c) fun k h to c hk _ => by
          rw [hS k h to c hk]
          constructor
          · rintro (⟨h1, h2⟩ | ⟨rfl, s', h1, h2⟩)
            · exact ⟨by omega, h2⟩
            · exact ⟨by omega, _, s', hst, h1, h2⟩
          · rintro ⟨h1, h2⟩
            by_cases e : h = i
            · subst e
              obtain ⟨s, s', h3, h4, h5⟩ := h2
              rw [hst] at h3; cases h3
              exact .inr ⟨rfl, s', h4, h5⟩
            · exact .inl ⟨by omega, h2⟩
        exact ⟨p3.W, R, Bd.none_ R fun k to c h => by omega, p3.M, p3.old⟩
      refine ⟨_, rfl, _, ⟨by rw [slen, sizeLine_eq]; rcases hsm.2 with h | ⟨e, k, h1, h2, h3, h4⟩; (have h : rest = [] := h; rw [h]; simp); (have h4 : rest = e.1.drop k := h4; rw [h4, List.length_drop]; have := o.bk.len e h1; omega), rfl⟩, ?_⟩
      rw [slen]
      cases rest with
      | cons y r =>
        refine iteT ?_
        have hyl : y ∈ b.1 := by
          rcases hsm.2 with h | ⟨e, k, h1, h2, h3, h4⟩
          · cases h
          · have h4 : y :: r = e.1.drop k := h4
            exact o.bk.lets e h1 y (List.mem_of_mem_drop (h4 ▸ List.mem_cons_self))
        have hrr : Rest b r := by
          rcases hsm.2 with h | ⟨e, k, h1, h2, h3, h4⟩
          · cases h
          · have h4 : y :: r = e.1.drop k := h4
            cases r with
            | nil => exact .inl rfl
            | cons z r' =>
              refine .inr ⟨e, k + 1, h1, by omega, ?_, ?_⟩
              · have := congrArg List.length h4
                rw [List.length_drop] at this
                simp at this
                omega
              · rw [← List.drop_drop, ← h4]; rfl
        have hrl : r.length ≤ 3 := by
          rcases hrr with h | ⟨e, k, h1, h2, h3, h4⟩
          · rw [h]; simp
          · rw [h4, List.length_drop]; have := o.bk.len e h1; omega
        obtain ⟨jj, hjj⟩ := List.mem_iff_getElem?.mp hyl
        have hkj : (keysOf b)[jj + 1]? = some (some y) := by
          show (b.1.map some)[jj]? = _
          rw [List.getElem?_map, hjj]; rfl
        obtain ⟨idx, hidx⟩ := o.idx (s := (q, r)) hq hrr
        obtain ⟨d, qq, row, ys, hd, hqq, hrow, hys, hal4, hyl2, hd1, hd2⟩ := p2.at hkj hih
        have hd2' : ((L1.map (·.1)).tail)[jj]? = some d.1 := by rw [List.getElem?_tail]; exact hd2
        obtain ⟨p0', hp0', hins3⟩ := p2.W.ins
        refine ⟨_, rfl, sf, _, dx, _, _, rfl, hins3, T.cl_MoveWeb, T.na_MoveWeb_reading, wfl_r, _, rfl, _, 0, y, rfl, rfl, by rw [slen, sizeLine_eq, List.length_cons]; omega, at_head r y, ?_⟩
        refine ⟨rd, .ref d.1, rfl, by rw [← rkvs_at o.ln hjj hd2']; exact DGet.k (k := kS [y]) p2.W.hr, _, rfl, d.1, _, _, .ref qq, rfl, rfl, SqL.of hd1, atI_nat (by rw [List.getElem?_map, hqq]; rfl), .inl ⟨rfl, _, SqL.of hys⟩, ?_⟩
        refine ⟨_, rfl, sf, _, dx, _, _, rfl, hins3, T.cl_MoveWeb, T.na_MoveWeb_homes, wfl_h, _, rfl, _, rfl, 1, rfl, _, rfl, by rw [slen, sizeLine_eq, List.length_cons]; omega, by show 2 ≤ sizeLine; decide, fun U1 hU1 => ?_⟩
        rw [cut_tail]
        have f1 := Fe.new (o := .tup [.int (q : Int), .str ⟨r.toArray⟩]) hU1
        refine ⟨ah, .int (idx : Int), rfl, by rw [← hkvs_at o.nd hidx]; exact DGet.t (k := kSt (q, r)) (f1.k p2.W.hh) upd_same, ?_⟩
        refine ⟨by show 3 ≤ sizeLine; decide, fun U3 hU3 => ?_⟩
        have f3 := f1.trans (Fe.new (o := .tup [.int (idx : Int), .int 0, .non]) hU3)
        refine ⟨qq, ys, _, rfl, rfl, f3.k hys, by rw [sizeLine_eq]; omega, ?_⟩
        obtain ⟨L', p5, ha5⟩ := p2.put o f3 hkj hd hqq hrow hys hal4 (to := idx) (c := 0) (y := .non) upd_same
        refine ⟨L', _, _, _, _, _, rfl, by rw [ha5, hadr], fin p5 fun k h to c hk => ?_⟩
        constructor
        · rintro (z | ⟨rfl, rfl, rfl, rfl⟩)
          · exact .inl z
          · exact .inr ⟨rfl, _, hidx, mv_rest.mpr ⟨rfl, rfl, rfl⟩⟩
        · rintro (z | ⟨rfl, s', h1, h2⟩)
          · exact .inl z
          · obtain ⟨rfl, rfl, rfl⟩ := mv_rest.mp h2
            exact .inr ⟨rfl, rfl, nd_ix o.nd h1 hidx, rfl⟩
      | nil =>
        refine iteF ?_
        -- for letter, to in rows[state]
        have hrow0 := stepRows_at (n := m.1) (steps := m.2.2) hq
        obtain ⟨rr, cells, hrr, _, hcells, hals⟩ := p2.M.get hrow0
        refine ⟨_, rfl, _, rfl, a, _, _, .ref rr, rfl, rfl, SqL.of p2.M.at_, atI_nat (by rw [List.getElem?_map, hrr]; rfl), rr, rfl, ⟨_, SqL.of hcells⟩, for_lst (xs := cells) (fun j σ' H' => ∃ (L' : List MatD) (o4 o5 : Option V),
          σ' = [some (.ref sf), some (.ref a), some (.int (i : Int)), some (.int (q : Int)), some (.str ⟨([] : List Nat).toArray⟩), o4, o5] ∧ adr L' = adr L ∧ H' rr = some (.lst cells) ∧ Al (rP rC rN) H' cells ((m.2.2.filter fun s => s.1 == q).map (·.2)) ∧
          PSt T.c_MoveWeb H0 H1 H' b m sts L' (fun k h to c => (h < i ∧ Told b m sts k h to c) ∨ (h = i ∧ ∃ x s', k = some x ∧ sts[to]? = some s' ∧ s'.2 = [] ∧ (x, s'.1) ∈ ((m.2.2.filter fun s => s.1 == q).map (·.2)).take j ∧ c = 0)) i j sf dx vb vm as xs ah rd a rs)
          ⟨L1, o4, o5, rfl, hadr, hcells, hals, p2.imp fun k h to c _ _ => ⟨.inl, fun z => z.elim id fun ⟨_, x, s', _, _, _, e, _⟩ => nomatch e⟩⟩ (fun i σ' H' _ ⟨_, _, _, _, _, e, _⟩ => e) ?_ ?_⟩
        · rintro j x σ' H3 hx ⟨L3, o4, o5, rfl, hadr3, hc3, hal3, p4⟩
          obtain ⟨⟨y, r⟩, hyr, hxr⟩ := hal3.get hx
          obtain ⟨u4, x3, x4, rfl, hu4, rfl, rfl⟩ := id hxr
          have hmem : (q, y, r) ∈ m.2.2 := by
            obtain ⟨s, h1, h2⟩ := List.mem_map.mp (List.mem_of_getElem? hyr)
            obtain ⟨h3, h4⟩ := List.mem_filter.mp h1
            have h4 : s.1 = q := by simpa using h4
            obtain ⟨s1, s2⟩ := s
            cases h2; cases h4
            exact h3
          have hrm : r < m.1 := (o.mo.st _ hmem).2
          have hyl : y ∈ b.1 := o.ms _ hmem
          have hj100 : j < 100 := by
            have h1 := (List.getElem?_eq_some_iff.mp hyr).1
            rw [List.length_map] at h1
            have h2 := List.length_filter_le (fun s : Nat × Nat × Nat => s.1 == q) m.2.2
            have h3 := o.mo.fewS
            omega
          obtain ⟨jj, hjj⟩ := List.mem_iff_getElem?.mp hyl
          have hkj : (keysOf b)[jj + 1]? = some (some y) := by
            show (b.1.map some)[jj]? = _
            rw [List.getElem?_map, hjj]; rfl
          obtain ⟨idx, hidx⟩ := o.idx (s := (r, [])) hrm (.inl rfl)
          obtain ⟨d, qq, row, ys, hd, hqq, hrow, hys, hal4, hyl2, hd1, hd2⟩ := p4.at hkj hih
          have hd2' : ((L3.map (·.1)).tail)[jj]? = some d.1 := by rw [List.getElem?_tail]; exact hd2
          obtain ⟨p0', hp0', hins3⟩ := p4.W.ins
          refine ⟨u4, _, rfl, SqT.of hu4, rfl, _, _, rfl, _, _, rfl, rfl, ?_⟩
          refine ⟨_, rfl, sf, _, dx, _, _, rfl, hins3, T.cl_MoveWeb, T.na_MoveWeb_reading, wfl_r, _, rfl, ?_⟩
          refine ⟨rd, .ref d.1, rfl, by rw [← rkvs_at o.ln hjj hd2']; exact DGet.k (k := kS [y]) p4.W.hr, _, rfl, d.1, _, _, .ref qq, rfl, rfl, SqL.of hd1, atI_nat (by rw [List.getElem?_map, hqq]; rfl), .inl ⟨rfl, _, SqL.of hys⟩, ?_⟩
          refine ⟨_, rfl, sf, _, dx, _, _, rfl, hins3, T.cl_MoveWeb, T.na_MoveWeb_homes, wfl_h, _, rfl, by show 2 ≤ sizeLine; decide, fun U1 hU1 => ?_⟩
          have f1 := Fe.new (o := .tup [.int (r : Int), .str ""]) hU1
          have g1 : upd H3 U1 (.tup [.int (r : Int), .str ""]) U1 = some (.tup ((kSt (r, [])).map kV)) := by rw [upd_same, str_nil]; rfl
          refine ⟨ah, .int (idx : Int), rfl, by rw [← hkvs_at o.nd hidx]; exact DGet.t (f1.k p4.W.hh) g1, ?_⟩
          refine ⟨_, rfl, _, rfl, by show 2 ≤ sizeLine; decide, fun U2 hU2 => ?_⟩
          have f2 := f1.trans (Fe.new (o := .tup [.str ⟨#[y]⟩, .str ⟨#[y]⟩]) hU2)
          refine ⟨by show 3 ≤ sizeLine; decide, fun U3 hU3 => ?_⟩
          have f3 := f2.trans (Fe.new (o := .tup [.int (idx : Int), .int 0, .ref U2]) hU3)
          refine ⟨qq, ys, _, rfl, rfl, f3.k hys, by rw [sizeLine_eq]; omega, ?_⟩
          obtain ⟨L', p5, ha5⟩ := p4.put o f3 hkj hd hqq hrow hys hal4 (to := idx) (c := 0) (y := .ref U2) upd_same
          have rne : rr ≠ qq := by
            intro z
            have h1 := p4.old qq (mem_adr (List.mem_of_getElem? hd) (.inr (List.mem_of_getElem? hqq)))
            exact h1 (z ▸ p2.M.new rr (List.mem_of_getElem? hrr))
          have fq : Fx [qq] _ _ := Fx.put (o := .lst (ys ++ [.ref U3])) (f3.k hys) (List.mem_singleton.mpr rfl) (fun _ z => nomatch z)
          refine ⟨L', _, _, rfl, by rw [ha5, hadr3], by rw [upd_ne rne]; exact f3.k hc3, Al.mo fq (Al.mo f3 hal3), p5.imp fun k h to c hk hh => ?_⟩
          rw [List.take_add_one, hyr]
          constructor
          · rintro ((z | ⟨rfl, x, s', h1, h2, h3, h4, h5⟩) | ⟨rfl, rfl, rfl, rfl⟩)
            · exact .inl z
            · exact .inr ⟨rfl, x, s', h1, h2, h3, List.mem_append_left _ h4, h5⟩
            · exact .inr ⟨rfl, y, _, rfl, hidx, rfl, List.mem_append_right _ (List.mem_singleton.mpr rfl), rfl⟩
          · rintro (z | ⟨rfl, x, s', h1, h2, h3, h4, h5⟩)
            · exact .inl (.inl z)
            · rcases List.mem_append.mp h4 with h4 | h4
              · exact .inl (.inr ⟨rfl, x, s', h1, h2, h3, h4, h5⟩)
              · have e := List.mem_singleton.mp h4
                injection e with e1 e2
                have e3 : s' = (r, []) := Prod.ext e2 h3
                subst e3 e1
                exact .inr ⟨h1, rfl, nd_ix o.nd h2 hidx, h5⟩
        · rintro σ' H3 ⟨L3, o4, o5, rfl, hadr3, hc3, hal3, p4⟩
          obtain ⟨p0', hp0', hins3⟩ := p4.W.ins
          have hlen : cells.length ≤ 100 := by
            have h1 := hals.len
            rw [List.length_map] at h1
            have h2 := List.length_filter_le (fun s : Nat × Nat × Nat => s.1 == q) m.2.2
            have h3 := o.mo.fewS
            omega
          -- self.put_edits(rows, home, state)
          refine ⟨_, rfl, sf, dx, _, rfl, hins3, wfl_no (by decide +kernel) (by decide +kernel) (by decide +kernel) (by decide +kernel) (by decide +kernel) (by decide +kernel), _, rfl, _, rfl, _, rfl, ?_⟩
          refine ⟨H0, H1, b, m, sts, L3, _, i, cells.length, q, sf, dx, vb, vm, as, xs, ah, rd, a, rs, rfl, p4, o, hst, by omega, fun H4 L4 t4 p5 ha5 => ?_⟩
          refine ⟨L4, _, _, _, _, _, rfl, by rw [ha5, hadr3], fin p5 fun k h to c hk => ?_⟩
          rw [hals.len, List.take_length]
          constructor
          · rintro ((z | ⟨rfl, x, s', h1, h2, h3, h4, h5⟩) | ⟨rfl, s', h1, h2⟩)
            · exact .inl z
            · refine .inr ⟨rfl, s', h2, mv_nil.mpr (.inl ⟨x, h1, h3, ?_, h5⟩)⟩
              obtain ⟨s, h6, h7⟩ := List.mem_map.mp h4
              obtain ⟨h8, h9⟩ := List.mem_filter.mp h6
              have h9 : s.1 = q := by simpa using h9
              obtain ⟨s1, s2⟩ := s
              have h7 : s2 = (x, s'.1) := h7
              subst h7
              cases h9
              exact h8
            · exact .inr ⟨rfl, s', h1, mv_nil.mpr (.inr h2)⟩
          · rintro (z | ⟨rfl, s', h1, h2⟩)
            · exact .inl (.inl z)
            · rcases mv_nil.mp h2 with ⟨x, h3, h4, h5, h6⟩ | h3
              · exact .inl (.inr ⟨rfl, x, s', h3, h1, h4, List.mem_map.mpr ⟨(q, x, s'.1), List.mem_filter.mpr ⟨h5, by simp⟩, rfl⟩, h6⟩)
              · exact .inr ⟨rfl, s', h1, h3⟩
    · rintro σ' H' ⟨L', o1, o2, o3, o4, o5, rfl, hadr, p'⟩
      refine kk H' L' p'.W (p'.R.imp fun k h to c _ hh => ?_)
      rw [p'.W.hx.len]
      exact ⟨fun z => z.2, fun z => ⟨hh, z⟩⟩
end
end Fm
namespace Fm
open PySem L2
section
variable {g : TG} {tt : TT} {tk tv : TE} {vs : List Nat} {σ : L2.St} {H1 : Hp} {D : Addr} {Qd : Hp → Prop} {J : It} {o : HO}
/-- the turns of a dict's comprehension whose walk has n items -/
theorem dc_by (n : Nat) (Pv : Nat → Hp → Prop) (h0 : Pv 0 (upd H1 D o)) (hgo : ∀ i H, i < n → Pv i H → J.go i H) (hstop : ∀ H, Pv n H → J.stop n H)
    (hs : ∀ i x H H', i < n → Pv i H → J.yld i H x H' → g x (wipe σ vs) H' fun σ2 H2 => wipe σ2 vs = wipe σ vs ∧ tt σ2 H2 fun b H3 =>
      if b = true then tk σ2 H3 fun y H4 => tv σ2 H4 fun z H5 => ∃ H6, DPut H5 D y z H6 ∧ Pv (i + 1) H6 else Pv (i + 1) H3) (hd : ∀ H, Pv n H → Qd H) :
    ∃ W : Nat → Nat → Hp → Prop, (∃ m, W 0 m (upd H1 D o)) ∧ ∀ i m H, W i m H →
      (J.stop i H ∧ Qd H) ∨ (J.go i H ∧ ∃ Nx : Hp → Prop, (∀ H', Nx H' → ∃ m', m' < m ∧ W (i + 1) m' H') ∧ ∀ x H', J.yld i H x H' → g x (wipe σ vs) H' fun σ2 H2 => wipe σ2 vs = wipe σ vs ∧ tt σ2 H2 fun b H3 =>
        if b = true then tk σ2 H3 fun y H4 => tv σ2 H4 fun z H5 => ∃ H6, DPut H5 D y z H6 ∧ Nx H6 else Nx H3) := by
  refine ⟨fun i m H => i + m = n ∧ Pv i H, ⟨n, by omega, h0⟩, ?_⟩
  rintro i m H ⟨e, h⟩
  by_cases hi : i < n
  · exact .inr ⟨hgo i H hi h, fun H2 => Pv (i + 1) H2, fun H2 q => ⟨m - 1, by omega, by omega, q⟩, fun x H' y => hs i x H H' hi h y⟩
  · have e2 : i = n := by omega
    subst e2
    exact .inl ⟨hstop _ h, hd _ h⟩
end
def stsOf (n : Nat) (rs : List (List Nat)) : List Stg := (List.range n).flatMap fun q => rs.map fun r => (q, r)
theorem stsOf_succ (n : Nat) (rs : List (List Nat)) : stsOf (n + 1) rs = stsOf n rs ++ rs.map fun r => (n, r) := by
  unfold stsOf
  rw [List.range_succ, List.flatMap_append]
  simp
theorem stsOf_mem {n : Nat} {rs : List (List Nat)} {s : Stg} : s ∈ stsOf n rs ↔ (s.1 < n ∧ s.2 ∈ rs) := by
  unfold stsOf
  rw [List.mem_flatMap]
  constructor
  · rintro ⟨q, h1, h2⟩
    obtain ⟨r, h3, rfl⟩ := List.mem_map.mp h2
    exact ⟨List.mem_range.mp h1, h3⟩
  · rintro ⟨h1, h2⟩
    exact ⟨s.1, List.mem_range.mpr h1, List.mem_map.mpr ⟨s.2, h2, rfl⟩⟩
theorem stsOf_len (n : Nat) (rs : List (List Nat)) : (stsOf n rs).length = n * rs.length := by
  induction n with
  | zero => simp [stsOf]
  | succ n ih => rw [stsOf_succ, List.length_append, ih, List.length_map, Nat.succ_mul]
theorem stsOf_nd {n : Nat} {rs : List (List Nat)} (h : rs.Nodup) : (stsOf n rs).Nodup := by
  induction n with
  | zero => exact List.nodup_nil
  | succ n ih =>
    rw [stsOf_succ, List.nodup_append]
    refine ⟨ih, ?_, fun a ha b hb e => ?_⟩
    · rw [List.nodup_iff_pairwise_ne, List.pairwise_map]
      exact (List.nodup_iff_pairwise_ne.mp h).imp fun h z => h (congrArg Prod.snd z)
    · subst e
      obtain ⟨r, _, rfl⟩ := List.mem_map.mp hb
      have := (stsOf_mem.mp ha).1
      simp at this
theorem hkvs_put {sts : List Stg} (hn : sts.Nodup) {i : Nat} {s : Stg} (h : sts[i]? = some s) : putK (hkvs (sts.take i)) (kSt s) (.int (i : Int)) = hkvs (sts.take (i + 1)) := by
  have hil := (List.getElem?_eq_some_iff.mp h).1
  have hnot : valV (hkvs (sts.take i)) (kSt s) = none := by
    cases e : valV (hkvs (sts.take i)) (kSt s) with
    | none => rfl
    | some v =>
      have hk := valV_in e
      unfold hkvs at hk
      rw [List.map_map] at hk
      obtain ⟨⟨t, j⟩, h1, h2⟩ := List.mem_map.mp hk
      have h3 : kSt t = kSt s := h2
      have h4 := kSt_inj h3
      subst h4
      obtain ⟨k, h5, h6⟩ := List.mem_iff_getElem.mp h1
      rw [List.getElem_zipIdx] at h6
      injection h6 with h6 _
      have h7 : k < i := by
        rw [List.length_zipIdx, List.length_take] at h5; omega
      rw [List.getElem_take] at h6
      have := nd_ix hn (by rw [List.getElem?_eq_getElem (show k < sts.length by omega), h6]) h
      omega
  rw [putK_new _ hnot, List.take_add_one, h]
  unfold hkvs
  rw [List.zipIdx_append, List.map_append]
  congr 1
  show [_] = [_]
  rw [List.length_take, Nat.min_eq_left (by omega)]
  simp
theorem rkvs_put {ls : List Nat} {ps : List Addr} {c : Nat} {p : Addr} (hl : ls.length = ps.length) (h : c ∉ ls) : putK (rkvs ls ps) (kS [c]) (.ref p) = rkvs (ls ++ [c]) (ps ++ [p]) := by
  have hnot : valV (rkvs ls ps) (kS [c]) = none := by
    cases e : valV (rkvs ls ps) (kS [c]) with
    | none => rfl
    | some v =>
      have hk := valV_in e
      unfold rkvs at hk
      rw [List.map_map] at hk
      obtain ⟨⟨x, q⟩, h1, h2⟩ := List.mem_map.mp hk
      have h3 : kS [x] = kS [c] := h2
      have := kS_inj _ _ h3
      injection this with this _
      subst this
      exact absurd (List.of_mem_zip h1).1 h
  rw [putK_new _ hnot]
  unfold rkvs
  rw [List.zip_append hl, List.map_append]
  rfl
theorem Mats.keep {H0 H H' : Hp} {L : List MatD} (M : Mats H0 H L) {N : List Addr} (f : Fx N H H') (h : ∀ a ∈ adr L, a ∉ N) : Mats H0 H' L :=
  ⟨fun m hm => (M.mat m hm).keep f (h _ (mem_adr hm (.inl rfl))) (fun q hq => h _ (mem_adr hm (.inr hq))), M.nd⟩
theorem Mats.known {H0 H : Hp} {L : List MatD} (M : Mats H0 H L) {a : Addr} (h : a ∈ adr L) : ∃ ys, H a = some (.lst ys) := by
  obtain ⟨m, hm, ha⟩ := List.mem_flatMap.mp h
  rcases List.mem_cons.mp ha with rfl | ha
  · exact ⟨_, (M.mat m hm).at_⟩
  · obtain ⟨i, hi⟩ := List.mem_iff_getElem?.mp ha
    have hl : i < m.2.2.length := by rw [← (M.mat m hm).len]; exact (List.getElem?_eq_some_iff.mp hi).1
    obtain ⟨ys, h1, _⟩ := (M.mat m hm).row i a _ hi (List.getElem?_eq_getElem hl)
    exact ⟨ys, h1⟩
theorem Mat.old {α : Type} {r : Rp α} {H0 H1 H : Hp} {p : Addr} {qs : List Addr} {rows : List (List α)} (M : Mat r H1 H p qs rows) (e : Fe H0 H1) : Mat r H0 H p qs rows :=
  ⟨M.at_, M.nd, M.ne, fun q h => e.free (M.new q h), e.free M.newp, M.len, M.row⟩
/-- one more list of rows, all of it new -/
theorem Mats.more {H0 H1 H : Hp} {L : List MatD} (M : Mats H0 H1 L) (e : Fe H0 H1) (f : Fe H1 H) {p : Addr} {qs : List Addr} {rows : List Row} (N : Mat rMv H1 H p qs rows) : Mats H0 H (L ++ [(p, qs, rows)]) := by
  refine ⟨fun m hm => ?_, ?_⟩
  · rcases List.mem_append.mp hm with hm | hm
    · exact (M.mat m hm).fe f
    · rw [List.mem_singleton.mp hm]
      exact N.old e
  · unfold adr
    rw [List.flatMap_append, List.nodup_append]
    refine ⟨M.nd, ?_, fun a ha b hb e => ?_⟩
    · show ((p :: qs) ++ []).Nodup
      rw [List.append_nil, List.nodup_cons]
      exact ⟨N.ne, N.nd⟩
    · subst e
      obtain ⟨ys, hy⟩ := M.known ha
      have hb : a ∈ (p :: qs) ++ [] := hb
      rw [List.append_nil] at hb
      have : H1 a = none := by
        rcases List.mem_cons.mp hb with rfl | h
        · exact N.newp
        · exact N.new a h
      rw [this] at hy; cases hy
/-- a book and a machine as asked -/
structure POk (b : Book) (m : Mach) : Prop where
  bk : BOk b
  mo : MOk m
  few : m.1 ≤ 60
  ln : b.1.Nodup
  ms : ∀ s ∈ m.2.2, s.2.1 ∈ b.1
  e30 : RsB b
def spInit (C : Addr) : Sp := fun vs H Q _ => ∃ (H0 : Hp) (b : Book) (m : Mach) (sf dx : Addr) (vb vm : V), vs = [.ref sf, vb, vm] ∧ Fe H0 H ∧ H0 sf = none ∧ H sf = some (.ins C dx []) ∧ rBook H0 vb b ∧ rMach H0 vm m ∧ POk b m ∧
  ∀ (H' : Hp) (rs : List (List Nat)) (L : List MatD) (as : Addr) (xs : List V) (ah rd : Addr), PyProof.Rows.sortedS (rs.map sS) = true → SOk b m (stsOf m.1 rs) → (stsOf m.1 rs).length ≤ 4000 →
    WAt C H0 H' b m (stsOf m.1 rs) L sf dx vb vm as xs ah rd → Rows (stsOf m.1 rs).length (keysOf b) L (Told b m (stsOf m.1 rs)) → Q .non H'
theorem nodup_take_not {l : List Nat} (h : l.Nodup) {i c : Nat} (hi : l[i]? = some c) : c ∉ l.take i := by
  intro hm
  obtain ⟨k, h1, h2⟩ := List.mem_iff_getElem.mp hm
  rw [List.length_take] at h1
  rw [List.getElem_take] at h2
  have := nd_ix h (by rw [List.getElem?_eq_getElem (show k < l.length by omega), h2]) hi
  omega
section
variable {P : Program} {w : World} {K : PySem.W.Frag} {g : Str → Option Value} {base : Heap}
theorem ok_MoveWeb_init (T : Txt K g) : FnOk P w K g base CX0 5 T.d_MoveWeb_init.f T.d_MoveWeb_init.fd P_MoveWeb_init (spInit T.c_MoveWeb) := by
  refine T.d_MoveWeb_init.F.ok sc_MoveWeb_init (fun vs H Q E h => ?_) (fun cdv A outer s H vs Q E hr h => ?_)
  · obtain ⟨_, _, _, _, _, _, _, rfl, _⟩ := h
    rfl
  · obtain ⟨H0, b, m, sf, dx, vb, vm, rfl, e0, nsf, hins, hb, hm, ok, kk⟩ := h
    have hu := hu_of hr
    refine ⟨_, (pss_cons (ks_fld (K := K) rfl (pv 0) (pv 1) rfl)
    (pss_cons (ks_fld (K := K) rfl (pv 0) (pv 2) rfl)
    (pss_cons (ps_set (i := 3) sc_MoveWeb_init.nd rfl (by first | exact Or.inl rfl | exact Or.inr rfl) (pe_call (ok_rests_of T) (hr.mono (by decide)) rfl T.d_rests_of.mg T.d_rests_of.kp T.d_rests_of.b .nil pass0 (pa_cons (pv 1) pa_nil)))
    (pss_cons (ks_fld (K := K) rfl (pv 0) (pe_lc2 (own := [("state", 4), ("rest", 5)]) (vs1 := [5]) rfl sc_MoveWeb_init.nd (pi_range1 rfl T.z_range (pa_cons (pe_ix (kx_tup (K := K) rfl) (pv 2) pe_int (fun _ _ => rfl)) pa_nil)) (blkOk_by (N := N_MoveWeb_init) (sc := defScope s_MoveWeb_init) (by decide +kernel)) (by decide) (fun _ _ _ _ _ => by exact (pg_name (i := 4) sc_MoveWeb_init.nd rfl (by first | exact Or.inl rfl | exact Or.inr rfl))) (fun _ _ _ _ _ => by exact pts_nil) (fun _ _ _ _ _ => by exact (ki_list (K := K) rfl (pv 3))) (fun _ _ _ _ _ => by exact (pg_name (i := 5) sc_MoveWeb_init.nd rfl (by first | exact Or.inl rfl | exact Or.inr rfl))) (fun _ _ _ _ _ => by exact pts_nil) (fun _ _ _ _ _ => by exact (pe_tup (pa_cons (pv 4) (pa_cons (pv 5) pa_nil))))) rfl)
    (pss_cons (ks_fld (K := K) rfl (pv 0) (ke_dc (o := .dT []) (.inr rfl) hr.units0 (own := [("home", 6), ("standing", 7)]) rfl sc_MoveWeb_init.nd (ki_enum (K := K) rfl rfl T.z_enumerate (pa_cons (ke_fld (K := K) rfl (pv 0) rfl) pa_nil)) (blkOk_by (N := N_MoveWeb_init) (sc := defScope s_MoveWeb_init) (by decide +kernel)) (fun _ _ _ _ _ => by exact (kg_tup (K := K) 2 rfl rfl (pgs_cons (pg_name (i := 6) sc_MoveWeb_init.nd rfl (by first | exact Or.inl rfl | exact Or.inr rfl)) (pgs_cons (pg_name (i := 7) sc_MoveWeb_init.nd rfl (by first | exact Or.inl rfl | exact Or.inr rfl)) pgs_nil)))) (fun _ _ _ _ _ => by exact pts_nil) (fun _ _ _ _ _ => by exact (pv 7)) (fun _ _ _ _ _ => by exact (pv 6))) rfl)
    (pss_cons (ks_fld (K := K) rfl (pv 0) (pe_lc (own := [("_", 8)]) rfl sc_MoveWeb_init.nd (ki_list (K := K) rfl (ke_fld (K := K) rfl (pv 0) rfl)) (blkOk_by (N := N_MoveWeb_init) (sc := defScope s_MoveWeb_init) (by decide +kernel)) (fun _ _ _ _ _ => by exact (pg_name (i := 8) sc_MoveWeb_init.nd rfl (by first | exact Or.inl rfl | exact Or.inr rfl))) (fun _ _ _ _ _ => by exact pts_nil) (fun _ _ _ _ _ => by exact (pe_lst pa_nil))) rfl)
    (pss_cons (ks_fld (K := K) rfl (pv 0) (ke_dc (o := .dK []) (.inl rfl) hr.units0 (own := [("letter", 9)]) rfl sc_MoveWeb_init.nd (pi_str (pe_ix (kx_tup (K := K) rfl) (pv 1) pe_int (fun _ _ => rfl))) (blkOk_by (N := N_MoveWeb_init) (sc := defScope s_MoveWeb_init) (by decide +kernel)) (fun _ _ _ _ _ => by exact (pg_name (i := 9) sc_MoveWeb_init.nd rfl (by first | exact Or.inl rfl | exact Or.inr rfl))) (fun _ _ _ _ _ => by exact pts_nil) (fun _ _ _ _ _ => by exact (pv 9)) (fun _ _ _ _ _ => by exact (pe_lc (own := [("_", 8)]) rfl sc_MoveWeb_init.nd (ki_list (K := K) rfl (ke_fld (K := K) rfl (pv 0) rfl)) (by exact blkOk_by (N := N_MoveWeb_init) (by kernel_rfl)) (fun _ _ _ _ _ => by exact (pg_name (i := 8) sc_MoveWeb_init.nd rfl (by first | exact Or.inl rfl | exact Or.inr rfl))) (fun _ _ _ _ _ => by exact pts_nil) (fun _ _ _ _ _ => by exact (pe_lst pa_nil))))) rfl)
    (pss_one (ps_expr (pe_meth (pv 0) T.cl_MoveWeb T.d_MoveWeb_put_moves.m (ok_MoveWeb_put_moves T) (hr.mono (by decide)) T.d_MoveWeb_put_moves.b .nil pass0 (pa_cons (pe_call (ok_steps_by_state T) (hr.mono (by decide)) rfl T.d_steps_by_state.mg T.d_steps_by_state.kp T.d_steps_by_state.b .nil pass0 (pa_cons (pv 2) pa_nil)) pa_nil))))))))))), ?_⟩
    have cl := T.cl_MoveWeb
    -- self.book = book; self.machine = machine
    refine ⟨_, rfl, _, rfl, sf, _, dx, [], rfl, hins, cl, T.na_MoveWeb_book, by show 0 < 1000; decide, ?_⟩
    have e1 := e0.mut (o := .ins T.c_MoveWeb dx (putF nb vb [])) nsf
    refine ⟨_, rfl, _, rfl, sf, _, dx, _, rfl, upd_same, cl, T.na_MoveWeb_machine, by show 1 < 1000; decide, ?_⟩
    have e2 := e1.mut (o := .ins T.c_MoveWeb dx (putF nm vm (putF nb vb []))) nsf
    have i2 : upd (upd H sf (.ins T.c_MoveWeb dx (putF nb vb []))) sf (.ins T.c_MoveWeb dx (putF nm vm (putF nb vb []))) sf = some (.ins T.c_MoveWeb dx (putF nm vm (putF nb vb []))) := upd_same
    generalize upd (upd H sf (.ins T.c_MoveWeb dx (putF nb vb []))) sf (.ins T.c_MoveWeb dx (putF nm vm (putF nb vb []))) = H2 at e2 i2
    -- rests
    refine ⟨_, rfl, b, vb, rfl, Me.go hb e2, ok.bk, ok.e30, fun vr H3 rs e3 hrs hrn hrsort hrm hrl => ?_⟩
    have e03 := e2.trans e3
    have i3 := e3.k i2
    obtain ⟨ar, rxs, rfl, har, hrx⟩ := id hrs
    have hm3 := Me.go hm e03
    obtain ⟨am, x0, y0, z0, rfl, ham, rfl, _, _⟩ := id hm3
    have hrl61 : rs.length ≤ 61 := hrl
    have hfew := ok.few
    -- self.standings
    refine ⟨_, rfl, am, _, _, _, rfl, rfl, SqT.of ham, rfl, _, rfl, by omega, by omega, fun D hD => ⟨fun i k H' => i + k = m.1 ∧ Cmp (rP rN rS) H3 D (stsOf i rs) H', ⟨m.1, by omega, Cmp.start hD⟩, ?_⟩⟩
    rintro i k H' ⟨hik, c⟩
    by_cases hi : i < m.1
    · refine .inr ⟨by show i < (m.1 : Int).toNat; omega, fun H' => Cmp (rP rN rS) H3 D (stsOf (i + 1) rs) H', fun H' c' => ⟨k - 1, by omega, by omega, c'⟩, ?_⟩
      rintro x H4 ⟨rfl, rfl⟩
      refine ⟨rfl, ?_⟩
      refine ⟨_, rfl, ar, rfl, ⟨_, SqL.of (c.fe.k har)⟩, fun j k H' => j + k = rs.length ∧ Cmp (rP rN rS) H3 D (stsOf i rs ++ (rs.take j).map fun r => (i, r)) H', ⟨rs.length, by omega, by simpa using c⟩, ?_⟩
      rintro j k' H5 ⟨hjk, c5⟩
      by_cases hj : j < rs.length
      · have hrj : rs[j]? = some rs[j] := List.getElem?_eq_getElem hj
        obtain ⟨xv, hxv, hxr⟩ := hrx.at hrj
        refine .inr ⟨⟨rxs, xv, SqL.of (c5.fe.k har), hxv⟩, fun H' => Cmp (rP rN rS) H3 D (stsOf i rs ++ (rs.take (j + 1)).map fun r => (i, r)) H', fun H' c' => ⟨k' - 1, by omega, by omega, c'⟩, ?_⟩
        rintro x H6 ⟨rfl, hxe⟩
        have hx2 := hxe rxs (SqL.of (c5.fe.k har))
        rw [hxv] at hx2; cases hx2
        cases hxr
        refine ⟨rfl, ?_⟩
        refine ⟨_, rfl, _, rfl, by show 2 ≤ sizeLine; decide, fun U hU => ?_⟩
        have fU := Fe.new (o := .tup [.int (0 + (i : Int)), .str ⟨(rs[j]).toArray⟩]) hU
        have hz : (rs.take (j + 1)).map (fun r => (i, r)) = (rs.take j).map (fun r => (i, r)) ++ [(i, rs[j])] := by
          rw [List.take_add_one, hrj, List.map_append]; rfl
        rw [hz, ← List.append_assoc]
        refine c5.add ?_ fU ⟨U, _, _, rfl, upd_same, by rw [Int.zero_add]; rfl, rfl⟩
        rw [List.length_append, stsOf_len, List.length_map, List.length_take]
        have : i * rs.length ≤ 60 * 61 := Nat.mul_le_mul (by omega) hrl61
        omega
      · have e : j = rs.length := by omega
        subst e
        refine .inl ⟨⟨rxs, SqL.of (c5.fe.k har), by rw [hrx.len]; exact Nat.le_refl _⟩, ?_⟩
        rw [List.take_length] at c5
        show Cmp (rP rN rS) H3 D (stsOf (i + 1) rs) H5
        rw [stsOf_succ]
        exact c5
    · have e : i = m.1 := by omega
      subst e
      refine .inl ⟨by show (m.1 : Int).toNat ≤ m.1; omega, ?_⟩
      clear hi hik
      -- the standings stand at D
      obtain ⟨_, eD, xs, hDx, hxs⟩ := c
      generalize hsts : stsOf m.1 rs = sts at hxs
      have hstl : sts.length ≤ 4000 := by
        rw [← hsts, stsOf_len]
        have : m.1 * rs.length ≤ 60 * 61 := Nat.mul_le_mul hfew hrl61
        omega
      have so : SOk b m sts := by
        subst hsts
        exact ⟨ok.bk, ok.mo, ok.few, ok.ln, ok.ms, stsOf_nd hrn, fun s => by rw [stsOf_mem, hrm]⟩
      have e04 := e03.trans eD
      have i4 := eD.k i3
      refine ⟨_, rfl, sf, _, dx, _, rfl, i4, cl, T.na_MoveWeb_standings, ?_, ?_⟩
      · have h1 := length_putF nm (V.ref am) (putF nb vb [])
        have h2 := length_putF nb vb []
        rw [List.length_nil] at h2; omega
      have nDs : D ≠ sf := ne_of hDx i4 (fun z => nomatch z)
      have e5 := e04.mut (o := .ins T.c_MoveWeb dx (putF ns (.ref D) (putF nm (.ref am) (putF nb vb [])))) nsf
      have i5 : upd H' sf (.ins T.c_MoveWeb dx (putF ns (.ref D) (putF nm (.ref am) (putF nb vb [])))) sf = some (.ins T.c_MoveWeb dx (putF ns (.ref D) (putF nm (.ref am) (putF nb vb [])))) := upd_same
      have D5 : upd H' sf (.ins T.c_MoveWeb dx (putF ns (.ref D) (putF nm (.ref am) (putF nb vb [])))) D = some (.lst xs) := by rw [upd_ne nDs]; exact hDx
      have fx5 : Fx [sf] H' (upd H' sf (.ins T.c_MoveWeb dx (putF ns (.ref D) (putF nm (.ref am) (putF nb vb []))))) := Fx.put i4 (List.mem_singleton.mpr rfl) (fun _ z => nomatch z)
      have x5 := Al.mo fx5 hxs
      generalize upd H' sf (.ins T.c_MoveWeb dx (putF ns (.ref D) (putF nm (.ref am) (putF nb vb [])))) = H5 at e5 i5 D5 x5
      clear fx5 i4 hxs hDx
      have lks : ∀ v, (putF ns v (putF nm (.ref am) (putF nb vb []))).lookup ns = some v := fun v => by rw [lookup_putF, if_pos rfl]
      -- self.homes
      refine ⟨_, rfl, sf, _, dx, _, _, rfl, i5, cl, T.na_MoveWeb_standings, lks _, D, xs, rfl, SqL.of D5, fun Dh hDh => dc_by xs.length (fun i H' => H5 Dh = none ∧ Fe H5 H' ∧ H' Dh = some (.dT (hkvs (sts.take i)))) ⟨hDh, Fe.new hDh, upd_same⟩
        (fun i H' hi c => enum_go (c.2.1.k D5) hi) (fun H' c => enum_stop (c.2.1.k D5) (Nat.le_refl _)) ?_ ?_⟩
      · rintro i x H6 H7 hi ⟨c1, c2, c3⟩ hy
        obtain ⟨U, x, rfl, hU, rfl, hx⟩ := enum_yld (c2.k D5) hy
        obtain ⟨st, hst, hxr⟩ := x5.get hx
        obtain ⟨u, q1, q2, rfl, hu2, rfl, rfl⟩ := id hxr
        have fU := Fe.new (o := .tup [.int (i : Int), .ref u]) hU
        refine ⟨U, _, rfl, SqT.of upd_same, rfl, _, _, rfl, _, _, rfl, rfl, rfl, ?_⟩
        refine ⟨_, rfl, _, rfl, _, DPut.t (k := kSt st) (fU.k c3) (fU.k (c2.k hu2)) ?_, c1, (c2.trans fU).mut c1, ?_⟩
        · unfold hkvs
          rw [List.length_map, List.length_zipIdx, List.length_take, sizeLine_eq]; omega
        · rw [upd_same, hkvs_put so.nd hst]
      · rintro H6 ⟨_, e6, hh6⟩
        rw [x5.len, List.take_length] at hh6
        have e06 := e5.trans e6
        have i6 := e6.k i5
        refine ⟨_, rfl, sf, _, dx, _, rfl, i6, cl, T.na_MoveWeb_homes, ?_, ?_⟩
        · have h1 := length_putF nm (V.ref am) (putF nb vb [])
          have h2 := length_putF nb vb []
          have h3 := length_putF ns (V.ref D) (putF nm (V.ref am) (putF nb vb []))
          rw [List.length_nil] at h2; omega
        have e7 := e06.mut (o := .ins T.c_MoveWeb dx (putF nh (.ref Dh) (putF ns (.ref D) (putF nm (.ref am) (putF nb vb []))))) nsf
        have fx7 : Fx [sf] H6 (upd H6 sf (.ins T.c_MoveWeb dx (putF nh (.ref Dh) (putF ns (.ref D) (putF nm (.ref am) (putF nb vb [])))))) := Fx.put i6 (List.mem_singleton.mpr rfl) (fun _ z => nomatch z)
        have i7 : upd H6 sf (.ins T.c_MoveWeb dx (putF nh (.ref Dh) (putF ns (.ref D) (putF nm (.ref am) (putF nb vb []))))) sf = some (.ins T.c_MoveWeb dx (putF nh (.ref Dh) (putF ns (.ref D) (putF nm (.ref am) (putF nb vb []))))) := upd_same
        have D7 := fx7.keep D _ (fun z => nDs (List.mem_singleton.mp z)) (e6.k D5)
        have h7 := fx7.keep Dh _ (fun z => ne_of hh6 i6 (fun z => nomatch z) (List.mem_singleton.mp z)) hh6
        have x7 := Al.mo fx7 (Al.mo e6 x5)
        generalize upd H6 sf (.ins T.c_MoveWeb dx (putF nh (.ref Dh) (putF ns (.ref D) (putF nm (.ref am) (putF nb vb []))))) = H7 at e7 i7 D7 h7 x7
        clear fx7 i6 x5
        have lks7 : (putF nh (.ref Dh) (putF ns (.ref D) (putF nm (.ref am) (putF nb vb [])))).lookup ns = some (.ref D) := by
          rw [lookup_putF, if_neg w_sh, lookup_putF, if_pos rfl]
        -- self.silent
        refine ⟨_, rfl, sf, _, dx, _, _, rfl, i7, cl, T.na_MoveWeb_standings, lks7, D, rfl, ⟨_, SqL.of D7⟩, fun p0 hp0 => lc_list (K := K) (a := D) (xs := xs) (MatC H7 p0) (MatC.start hp0) (fun i H' _ mc => SqL.of (mc.2.1.k D7)) ?_ ?_⟩
        · intro i x H' hx mc
          exact ⟨rfl, mc.go (by have := (List.getElem?_eq_some_iff.mp hx).1; rw [x7.len] at this; omega)⟩
        · intro H8 mc
          have e8 := mc.2.1
          have e08 := e7.trans e8
          obtain ⟨qs0, M0⟩ := mc.mat (r := rMv) e7
          have i8 := e8.k i7
          refine ⟨_, rfl, sf, _, dx, _, rfl, i8, cl, T.na_MoveWeb_silent, ?_, ?_⟩
          · have h1 := length_putF nm (V.ref am) (putF nb vb [])
            have h2 := length_putF nb vb []
            have h3 := length_putF ns (V.ref D) (putF nm (V.ref am) (putF nb vb []))
            have h4 := length_putF nh (V.ref Dh) (putF ns (V.ref D) (putF nm (V.ref am) (putF nb vb [])))
            rw [List.length_nil] at h2; omega
          have e9 := e08.mut (o := .ins T.c_MoveWeb dx (putF nl (.ref p0) (putF nh (.ref Dh) (putF ns (.ref D) (putF nm (.ref am) (putF nb vb [])))))) nsf
          have fx9 : Fx [sf] H8 (upd H8 sf (.ins T.c_MoveWeb dx (putF nl (.ref p0) (putF nh (.ref Dh) (putF ns (.ref D) (putF nm (.ref am) (putF nb vb []))))))) := Fx.put i8 (List.mem_singleton.mpr rfl) (fun _ z => nomatch z)
          have i9 : upd H8 sf (.ins T.c_MoveWeb dx (putF nl (.ref p0) (putF nh (.ref Dh) (putF ns (.ref D) (putF nm (.ref am) (putF nb vb [])))))) sf = some (.ins T.c_MoveWeb dx (putF nl (.ref p0) (putF nh (.ref Dh) (putF ns (.ref D) (putF nm (.ref am) (putF nb vb [])))))) := upd_same
          have D9 := fx9.keep D _ (fun z => nDs (List.mem_singleton.mp z)) (e8.k D7)
          have h9 := fx9.keep Dh _ (fun z => ne_of (e8.k h7) i8 (fun z => nomatch z) (List.mem_singleton.mp z)) (e8.k h7)
          have x9 := Al.mo fx9 (Al.mo e8 x7)
          have Ms8 : Mats H0 H8 [(p0, qs0, List.replicate xs.length [])] := ⟨fun m hm => by rw [List.mem_singleton.mp hm]; exact M0, by
            show ((p0 :: qs0) ++ []).Nodup
            rw [List.append_nil, List.nodup_cons]; exact ⟨M0.ne, M0.nd⟩⟩
          have nsfL : sf ∉ adr [(p0, qs0, List.replicate xs.length ([] : Row))] := fun z => by
            obtain ⟨ys, hy⟩ := Ms8.known z
            rw [i8] at hy; cases hy
          have Ms9 := Ms8.keep fx9 (fun a ha z => nsfL (List.mem_singleton.mp z ▸ ha))
          have nD9 : D ∉ adr [(p0, qs0, List.replicate xs.length ([] : Row))] := fun z => by
            have h1 : H7 D = none := by
              have z : D ∈ (p0 :: qs0) ++ [] := z
              rw [List.append_nil] at z
              rcases List.mem_cons.mp z with rfl | z
              · exact hp0
              · obtain ⟨_, _, qs1, hl1, hD1, hn1, hne1, hq1⟩ := mc
                have h2 : qs0 = qs1 := by
                  have := M0.at_
                  rw [hD1] at this
                  have := HO.lst.inj (Option.some.inj this)
                  exact ((List.map_inj_right (fun a b e => V.ref.inj e)).mp this).symm
                exact (hq1 D (h2 ▸ z)).1
            rw [D7] at h1; cases h1
          generalize upd H8 sf (.ins T.c_MoveWeb dx (putF nl (.ref p0) (putF nh (.ref Dh) (putF ns (.ref D) (putF nm (.ref am) (putF nb vb [])))))) = H9 at e9 i9 D9 h9 x9 Ms9
          clear fx9 i8 x7 Ms8 nsfL
          have lks9 : (putF nl (.ref p0) (putF nh (.ref Dh) (putF ns (.ref D) (putF nm (.ref am) (putF nb vb []))))).lookup ns = some (.ref D) := by
            rw [lookup_putF, if_neg w_sl, lookup_putF, if_neg w_sh, lookup_putF, if_pos rfl]
          obtain ⟨ab, bl, be, rfl, hab, rfl, _⟩ := id (Me.go hb e9)
          -- self.reading
          refine ⟨_, rfl, ab, _, _, _, rfl, rfl, SqT.of hab, rfl, _, rfl, fun Dr hDr => dc_by b.1.length (fun i H' => ∃ Ls : List MatD, Ls.length = i ∧ H9 Dr = none ∧ Fe H9 H' ∧ H' Dr = some (.dK (rkvs (b.1.take i) (Ls.map (·.1)))) ∧
            Mats H0 H' ((p0, qs0, List.replicate xs.length []) :: Ls) ∧ (∀ m ∈ Ls, m.2.2 = List.replicate xs.length []) ∧ D ∉ adr ((p0, qs0, List.replicate xs.length []) :: Ls))
            ⟨[], rfl, hDr, Fe.new hDr, upd_same, Ms9.fe (Fe.new hDr), fun m h => (nomatch h), nD9⟩ (fun i H' hi _ => by show i < b.1.toArray.size; rw [List.size_toArray]; exact hi) (fun H' _ => by show b.1.toArray.size ≤ _; rw [List.size_toArray]; exact Nat.le_refl _) ?_ ?_⟩
          · rintro i x H10 H11 hi ⟨Ls, hl, c1, c2, c3, c4, c5, c6⟩ ⟨rfl, ch, hch, rfl⟩
            have hch : b.1[i]? = some ch := by
              have hch : b.1.toArray[i]? = some ch := hch
              rw [List.getElem?_toArray] at hch
              exact hch
            refine ⟨rfl, ?_⟩
            refine ⟨_, rfl, _, rfl, sf, _, dx, _, _, rfl, c2.k i9, cl, T.na_MoveWeb_standings, lks9, D, rfl, ⟨_, SqL.of (c2.k D9)⟩, fun p1 hp1 => lc_list (K := K) (a := D) (xs := xs) (MatC H11 p1) (MatC.start hp1) (fun i H' _ mc => SqL.of (mc.2.1.k (c2.k D9))) ?_ ?_⟩
            · intro i x H' hx mc
              exact ⟨rfl, mc.go (by have := (List.getElem?_eq_some_iff.mp hx).1; rw [x9.len] at this; omega)⟩
            · intro H12 mc1
              obtain ⟨qs1, M1⟩ := mc1.mat (r := rMv) (Fx.refl [] H11)
              have e12 := mc1.2.1
              have Ms12 := c4.more (e9.trans c2) e12 M1
              have n12 : Dr ∉ adr ((p0, qs0, List.replicate xs.length []) :: Ls ++ [(p1, qs1, List.replicate xs.length [])]) := fun z => by
                obtain ⟨ys, hy⟩ := Ms12.known z
                rw [e12.k c3] at hy; cases hy
              refine ⟨_, DPut.k (k := kS [ch]) (e12.k c3) ?_, Ls ++ [(p1, qs1, List.replicate xs.length [])], by rw [List.length_append, hl]; rfl, c1, (c2.trans e12).mut c1, ?_, ?_, ?_, ?_⟩
              · unfold rkvs
                rw [List.length_map, List.length_zip, List.length_take, sizeLine_eq]
                have := ok.bk.fewL; omega
              · rw [upd_same, rkvs_put (by rw [List.length_take, List.length_map]; omega) (nodup_take_not ok.ln hch), List.take_add_one, hch, List.map_append]
                rfl
              · exact Ms12.keep (Fx.put (e12.k c3) (List.mem_singleton.mpr rfl) (fun _ z => nomatch z)) (fun a ha z => n12 (List.mem_singleton.mp z ▸ ha))
              · intro m hm
                rcases List.mem_append.mp hm with hm | hm
                · exact c5 m hm
                · rw [List.mem_singleton.mp hm]
              · intro z
                have z : D ∈ adr (((p0, qs0, List.replicate xs.length []) :: Ls) ++ [(p1, qs1, List.replicate xs.length [])]) := z
                unfold adr at z
                rw [List.flatMap_append] at z
                rcases List.mem_append.mp z with z | z
                · exact c6 z
                · have z : D ∈ (p1 :: qs1) ++ [] := z
                  rw [List.append_nil] at z
                  have h1 : H11 D = none := by
                    rcases List.mem_cons.mp z with rfl | z
                    · exact hp1
                    · exact M1.new D z
                  rw [c2.k D9] at h1; cases h1
          · rintro H10 ⟨Ls, hl, c1, c2, c3, c4, c5, c6⟩
            rw [List.take_length] at c3
            have i10 := c2.k i9
            have e10 := e9.trans c2
            refine ⟨_, rfl, sf, _, dx, _, rfl, i10, cl, T.na_MoveWeb_reading, ?_, ?_⟩
            · have h1 := length_putF nm (V.ref am) (putF nb (V.ref ab) [])
              have h2 := length_putF nb (V.ref ab) []
              have h3 := length_putF ns (V.ref D) (putF nm (V.ref am) (putF nb (V.ref ab) []))
              have h4 := length_putF nh (V.ref Dh) (putF ns (V.ref D) (putF nm (V.ref am) (putF nb (V.ref ab) [])))
              have h5 := length_putF nl (V.ref p0) (putF nh (V.ref Dh) (putF ns (V.ref D) (putF nm (V.ref am) (putF nb (V.ref ab) []))))
              rw [List.length_nil] at h2; omega
            have e11 := e10.mut (o := .ins T.c_MoveWeb dx (wfl (.ref ab) (.ref am) (.ref D) (.ref Dh) (.ref p0) (.ref Dr))) nsf
            have fx : Fx [sf] H10 (upd H10 sf (.ins T.c_MoveWeb dx (wfl (.ref ab) (.ref am) (.ref D) (.ref Dh) (.ref p0) (.ref Dr)))) := Fx.put i10 (List.mem_singleton.mpr rfl) (fun _ z => nomatch z)
            have ap : ∀ a o, H10 a = some o → (∀ fs, o ≠ .ins T.c_MoveWeb dx fs) → upd H10 sf (.ins T.c_MoveWeb dx (wfl (.ref ab) (.ref am) (.ref D) (.ref Dh) (.ref p0) (.ref Dr))) a = some o := fun a o h n =>
              fx.keep a o (fun z => by rw [List.mem_singleton.mp z, i10] at h; exact n _ (Option.some.inj h).symm) h
            have Wt : WAt T.c_MoveWeb H0 (upd H10 sf (.ins T.c_MoveWeb dx (wfl (.ref ab) (.ref am) (.ref D) (.ref Dh) (.ref p0) (.ref Dr)))) b m sts ((p0, qs0, List.replicate xs.length []) :: Ls) sf dx (.ref ab) (.ref am) D xs Dh Dr :=
              ⟨e11, ⟨p0, rfl, upd_same⟩, Me.go hb e11, Me.go hm e11, ap _ _ (c2.k D9) (fun _ z => nomatch z), Al.mo fx (Al.mo c2 x9), ap _ _ (c2.k h9) (fun _ z => nomatch z), ap _ _ c3 (fun _ z => nomatch z),
                c4.keep fx (fun a ha z => by
                  obtain ⟨ys, hy⟩ := c4.known ha
                  rw [List.mem_singleton.mp z, i10] at hy; cases hy), c6⟩
            have i11 : upd H10 sf (.ins T.c_MoveWeb dx (wfl (.ref ab) (.ref am) (.ref D) (.ref Dh) (.ref p0) (.ref Dr))) sf = some (.ins T.c_MoveWeb dx (wfl (.ref ab) (.ref am) (.ref D) (.ref Dh) (.ref p0) (.ref Dr))) := upd_same
            -- self.put_moves(steps_by_state(machine))
            refine ⟨_, rfl, sf, dx, _, rfl, i11, wfl_no (by decide +kernel) (by decide +kernel) (by decide +kernel) (by decide +kernel) (by decide +kernel) (by decide +kernel), _, rfl, m, .ref am, rfl, Wt.hm, ok.mo, fun pr H12 rqs e12 Mr => ?_⟩
            have allrows : ∀ d ∈ ((p0, qs0, List.replicate xs.length ([] : Row)) :: Ls : List MatD), d.2.2 = List.replicate sts.length [] := fun d hd => by
              rw [← x9.len]
              rcases List.mem_cons.mp hd with rfl | hd
              · rfl
              · exact c5 d hd
            refine ⟨H0, _, b, m, sts, _, sf, dx, .ref ab, .ref am, D, xs, Dh, Dr, pr, rqs, rfl, ⟨Wt.f e12, ⟨?_, ?_, ?_⟩, ?_, Mr, ?_⟩, so, by omega, fun H' L' W' R' => ?_⟩
            · show Ls.length + 1 = (b.1.map some).length + 1
              rw [hl, List.length_map]
            · intro d hd
              rw [allrows d hd, List.length_replicate]
            · intro j k d h to c _ hd
              rw [allrows d (List.mem_of_getElem? hd)]
              constructor
              · rintro ⟨row, h1, h2⟩
                rw [List.getElem?_replicate] at h1
                split at h1
                · cases h1; cases h2
                · cases h1
              · exact fun z => z.2.elim
            · intro d hd row hr
              rw [allrows d hd, List.getElem?_replicate] at hr
              split at hr
              · cases hr; exact Nat.le_refl _
              · cases hr
            · intro a ha z
              obtain ⟨ys, hy⟩ := Wt.mats.known ha
              have q : some (HO.lst ys) = none := hy.symm.trans z
              cases q
            · subst hsts
              exact kk H' rs L' D xs Dh Dr hrsort so hstl W' R'
end
end Fm
namespace Fm
open PySem L2
/-- book, machine, standings as the web makes them -/
structure Std (b : Book) (m : Mach) (sts : List Stg) : Prop where
  ok : SOk b m sts
  few : sts.length ≤ 4000
  how : ∃ rs, sts = stsOf m.1 rs ∧ PyProof.Rows.sortedS (rs.map sS) = true
/-- a finished web at sf -/
def Wb (C : Addr) (b : Book) (m : Mach) (sts : List Stg) (H : Hp) (sf : Addr) : Prop :=
  ∃ (H0 : Hp) (L : List MatD) (dx : Addr) (vb vm : V) (as : Addr) (xs : List V) (ah rd : Addr), WAt C H0 H b m sts L sf dx vb vm as xs ah rd ∧ Rows sts.length (keysOf b) L (Told b m sts)
theorem Wb.f {C : Addr} {b : Book} {m : Mach} {sts : List Stg} {H H' : Hp} {sf : Addr} (w : Wb C b m sts H sf) (f : Fe H H') : Wb C b m sts H' sf := by
  obtain ⟨H0, L, dx, vb, vm, as, xs, ah, rd, W, R⟩ := w
  exact ⟨H0, L, dx, vb, vm, as, xs, ah, rd, W.f f, R⟩
theorem Wb.ins {C : Addr} {b : Book} {m : Mach} {sts : List Stg} {H : Hp} {sf : Addr} (w : Wb C b m sts H sf) : ∃ dx vb vm as ah p0 rd xs, H sf = some (.ins C dx (wfl vb vm (.ref as) (.ref ah) (.ref p0) (.ref rd))) ∧ H as = some (.lst xs) ∧ Al (rP rN rS) H xs sts := by
  obtain ⟨H0, L, dx, vb, vm, as, xs, ah, rd, W, R⟩ := w
  obtain ⟨p0, _, h⟩ := W.ins
  exact ⟨dx, vb, vm, as, ah, p0, rd, xs, h, W.hs, W.hx⟩
theorem Rows.here {H0 H : Hp} {n : Nat} {ks : List (Option Nat)} {L : List MatD} {S : Option Nat → Nat → Nat → Nat → Prop} (R : Rows n ks L S) (M : Mats H0 H L) {j h : Nat} {k : Option Nat} (hk : ks[j]? = some k) (hh : h < n) :
    ∃ d q ys row, L[j]? = some d ∧ H d.1 = some (.lst (d.2.1.map V.ref)) ∧ d.2.1[h]? = some q ∧ H q = some (.lst ys) ∧ Al rMv H ys row ∧ ∀ to c, (to, c, ()) ∈ row ↔ S k h to c := by
  have hj : j < L.length := by rw [R.len]; exact (List.getElem?_eq_some_iff.mp hk).1
  have hd : L[j]? = some L[j] := List.getElem?_eq_getElem hj
  have hm := List.mem_of_getElem? hd
  have hh' : h < (L[j]).2.2.length := by rw [R.rl _ hm]; exact hh
  have hr : (L[j]).2.2[h]? = some ((L[j]).2.2[h]'hh') := List.getElem?_eq_getElem hh'
  obtain ⟨q, ys, h1, _, h2, h3⟩ := (M.mat _ hm).get hr
  refine ⟨L[j], q, ys, _, hd, (M.mat _ hm).at_, h1, h2, h3, fun to c => ?_⟩
  have := R.ed j k _ h to c hk hd
  constructor
  · intro z; exact (this.mp ⟨_, hr, z⟩).2
  · intro z
    obtain ⟨row, h4, h5⟩ := this.mpr ⟨hh, z⟩
    rw [hr] at h4; cases h4
    exact h5
theorem told_lt {b : Book} {m : Mach} {sts : List Stg} {k : Option Nat} {h to c : Nat} (t : Told b m sts k h to c) : h < sts.length ∧ to < sts.length := by
  obtain ⟨s, s', h1, h2, _⟩ := t
  exact ⟨(List.getElem?_eq_some_iff.mp h1).1, (List.getElem?_eq_some_iff.mp h2).1⟩
/-- costs of moves are costs of the book, or 0 -/
theorem told_cost {b : Book} {m : Mach} {sts : List Stg} {k : Option Nat} {h to c : Nat} (t : Told b m sts k h to c) : c = 0 ∨ c ∈ b.2.map fun e => e.2.2 := by
  obtain ⟨s, s', _, _, h3⟩ := t
  cases k with
  | none =>
    obtain ⟨_, _, wr, h4, _⟩ := h3
    exact .inr (List.mem_map.mpr ⟨_, h4, rfl⟩)
  | some x =>
    rcases h3 with ⟨_, _, _, h4⟩ | ⟨_, _, _, h4⟩ | ⟨_, rd, wr, h4, _⟩
    · exact .inl h4
    · exact .inl h4
    · exact .inr (List.mem_map.mpr ⟨_, h4, rfl⟩)
abbrev vN (n : Nat) : V := .int (n : Int)
theorem inV_nats (x : Nat) (l : List Nat) : inV (vN x) (l.map vN) = decide (x ∈ l) := by
  unfold inV
  rw [Bool.eq_iff_iff, List.any_eq_true, decide_eq_true_eq]
  constructor
  · rintro ⟨y, hy, e⟩
    obtain ⟨z, hz, rfl⟩ := List.mem_map.mp hy
    have e' : ((z : Int) == (x : Int)) = true := e
    have := eq_of_beq e'
    have : z = x := by omega
    exact this ▸ hz
  · intro h
    exact ⟨_, List.mem_map.mpr ⟨x, h, rfl⟩, by show ((x : Int) == (x : Int)) = true; exact beq_self_eq_true _⟩
theorem flat_nats (l : List Nat) : (l.map vN).all flatV = true := by
  rw [List.all_eq_true]
  intro v hv
  obtain ⟨z, _, rfl⟩ := List.mem_map.mp hv
  rfl
def fr (told : CRow) (i : Nat) : List Nat := (List.range i).filter fun h => (told[h]?.getD none).isSome
theorem fr_succ (told : CRow) (i : Nat) : fr told (i + 1) = fr told i ++ (if (told[i]?.getD none).isSome then [i] else []) := by
  unfold fr
  rw [List.range_succ, List.filter_append]
  refine congrArg (fun z => List.filter _ (List.range i) ++ z) ?_
  rw [List.filter_cons]
  split <;> rfl
theorem fr_mem {told : CRow} {i h : Nat} : h ∈ fr told i ↔ h < i ∧ ∃ c, told[h]? = some (some c) := by
  unfold fr
  rw [List.mem_filter, List.mem_range]
  refine and_congr_right fun _ => ?_
  cases e : told[h]? with
  | none => simp
  | some o => cases o <;> simp
theorem fr_len (told : CRow) (i : Nat) : (fr told i).length ≤ i := by
  unfold fr
  exact Nat.le_trans (List.length_filter_le _ _) (by rw [List.length_range]; exact Nat.le_refl _)
def Rxs (S : Nat → Nat → Nat → Prop) (told : CRow) (X : Nat → Prop) : Prop := ∀ h to d, ¬ X h → S h to d → Rx told h to d
theorem at_oV {l : CRow} {i : Nat} {o : Option Nat} (h : l[i]? = some o) : (l.map oV)[i]? = some (oV o) := by rw [List.getElem?_map, h]; rfl
theorem set_oV (l : CRow) (i v : Nat) : (l.map oV).set i (vN v) = (l.set i (some v)).map oV := by rw [List.map_set]; rfl
def spClosed (C : Addr) : Sp := fun vs H Q _ => ∃ (b : Book) (m : Mach) (sts : List Stg) (sf : Addr) (v : V) (row : CRow) (A : Nat → Nat → Prop), vs = [.ref sf, v] ∧ Wb C b m sts H sf ∧ Std b m sts ∧ rL (rO rN) H v row ∧ LRow sts.length A row ∧
  ∀ (p : Addr) (H' : Hp) (row' : CRow), Fe H H' → H p = none → H' p = some (.lst (row'.map oV)) → LRow sts.length (Cl (Told b m sts none) A) row' → Q (.ref p) H'
theorem some_set {row : CRow} {to v h c : Nat} (e : row[h]? = some (some c)) : ∃ c', (row.set to (some v))[h]? = some (some c') := by
  rw [List.getElem?_set]
  by_cases q : to = h
  · subst q
    rw [if_pos rfl, if_pos (List.getElem?_eq_some_iff.mp e).1]
    exact ⟨_, rfl⟩
  · rw [if_neg q]; exact ⟨c, e⟩
def CLW (sf a p : Addr) (H : Hp) (n : Nat) (S : Nat → Nat → Nat → Prop) (A0 : Nat → Nat → Prop) (M D : Nat) (k : Nat) (σ' : L2.St) (H' : Hp) : Prop :=
  ∃ (told : CRow) (fs : List Nat) (F : Addr) (o4 o5 o6 o7 o8 : Option V), σ' = [some (.ref sf), some (.ref a), some (.ref p), some (.ref F), o4, o5, o6, o7, o8] ∧ Fe H H' ∧ F ≠ p ∧
    H' p = some (.lst (told.map oV)) ∧ H' F = some (.lst (fs.map vN)) ∧ Rlx n S A0 M D told ∧ (∀ h ∈ fs, h < n ∧ ∃ c, told[h]? = some (some c)) ∧ Rxs S told (· ∈ fs) ∧ k = 2 * Phi (M + n * D) told + (if fs = [] then 0 else 1)
def CLI (sf a p F G : Addr) (H : Hp) (n : Nat) (S : Nat → Nat → Nat → Prop) (A0 : Nat → Nat → Prop) (M D : Nat) (fs : List Nat) (i h c ph : Nat) (mv : List (Nat × Nat × Unit)) (j : Nat) (σ' : L2.St) (H2 : Hp) : Prop :=
  ∃ (told' : CRow) (ks : List Nat) (o6 o7 o8 : Option V), σ' = [some (.ref sf), some (.ref a), some (.ref p), some (.ref F), some (.ref G), some (vN h), o6, o7, o8] ∧ Fe H H2 ∧
    H2 p = some (.lst (told'.map oV)) ∧ H2 F = some (.lst (fs.map vN)) ∧ H2 G = some (.dK (tks kN ks)) ∧ ks.Nodup ∧ Rlx n S A0 M D told' ∧ (∀ h ∈ fs, h < n ∧ ∃ c, told'[h]? = some (some c)) ∧
    (∀ h ∈ ks, h < n ∧ ∃ c, told'[h]? = some (some c)) ∧ told'[h]? = some (some c) ∧ Rxs S told' (fun h' => h' ∈ fs.drop (i + 1) ∨ h' ∈ ks ∨ h' = h) ∧ (∀ to d, (to, d, ()) ∈ mv.take j → Rx told' h to d) ∧
    Phi (M + n * D) told' ≤ ph ∧ (ks ≠ [] → Phi (M + n * D) told' < ph)
section
variable {P : Program} {w : World} {K : PySem.W.Frag} {g : Str → Option Value} {base : Heap}
theorem ok_MoveWeb_closed (T : Txt K g) : FnOk P w K g base CX0 1 T.d_MoveWeb_closed.f T.d_MoveWeb_closed.fd P_MoveWeb_closed (spClosed T.c_MoveWeb) := by
  refine T.d_MoveWeb_closed.F.ok sc_MoveWeb_closed (fun vs H Q E h => ?_) (fun cdv A outer s H vs Q E hr h => ?_)
  · obtain ⟨_, _, _, _, _, _, _, rfl, _⟩ := h
    rfl
  · obtain ⟨b, m, sts, sf, v, row, A, rfl, hw, sd, hrow, hA, kk⟩ := h
    have hu := hu_of hr
    refine ⟨_, (pss_cons (ps_set (i := 2) sc_MoveWeb_closed.nd rfl (by first | exact Or.inl rfl | exact Or.inr rfl) (pe_callTy (kc_list (K := K) rfl) (by rfl) T.z_list (by decide +kernel) (pa_cons (pv 1) pa_nil)))
    (pss_cons (ps_setLc (i := 3) (own := [("home", 5), ("cost", 7)]) rfl sc_MoveWeb_closed.nd rfl rfl (sw_true rfl rfl rfl (by decide +kernel)) (ki_enum (K := K) rfl rfl T.z_enumerate (pa_cons (pv 2) pa_nil)) (blkOk_by (N := N_MoveWeb_closed) (sc := defScope s_MoveWeb_closed) (by decide +kernel)) (fun _ _ _ _ _ => by exact (kg_tup (K := K) 2 rfl rfl (pgs_cons (pg_name (i := 5) sc_MoveWeb_closed.nd rfl (by first | exact Or.inl rfl | exact Or.inr rfl)) (pgs_cons (pg_name (i := 7) sc_MoveWeb_closed.nd rfl (by first | exact Or.inl rfl | exact Or.inr rfl)) pgs_nil)))) (fun _ _ _ _ _ => by exact pts_one (pt_cmpR op_notN (pv 7) pe_non (nomark _))) (fun _ _ _ _ _ => by exact (pv 5)))
    (pss_cons (ps_while PassesOwn.never (kt_truth (K := K) rfl (pv 3))
      (pss_cons (ps_set (i := 4) sc_MoveWeb_closed.nd rfl (by first | exact Or.inl rfl | exact Or.inr rfl) pe_dnewK)
      (pss_cons (ps_for PassesOwn.never rfl (ki_list (K := K) rfl (pv 3)) (pg_name (i := 5) sc_MoveWeb_closed.nd rfl (by first | exact Or.inl rfl | exact Or.inr rfl))
        (pss_one (ps_for PassesOwn.never rfl (ki_list (K := K) rfl (pe_ix (kx_list (K := K) rfl) (ke_fld (K := K) rfl (pv 0) rfl) (pv 5) (fun _ _ => rfl))) (kg_tup (K := K) 3 rfl rfl (pgs_cons (pg_name (i := 6) sc_MoveWeb_closed.nd rfl (by first | exact Or.inl rfl | exact Or.inr rfl)) (pgs_cons (pg_name (i := 7) sc_MoveWeb_closed.nd rfl (by first | exact Or.inl rfl | exact Or.inr rfl)) (pgs_cons (pg_name (i := 8) sc_MoveWeb_closed.nd rfl (by first | exact Or.inl rfl | exact Or.inr rfl)) pgs_nil))))
          (pss_one (ps_if (PW.pt (pw_or (pt_cmpR op_isN (pe_ix (kx_list (K := K) rfl) (pv 2) (pv 6) (fun _ _ => rfl)) pe_non (nomark _)) (pw_or1 (pt_cmpR op_lt (pe_op op_add (pe_ix (kx_list (K := K) rfl) (pv 2) (pv 5) (fun _ _ => rfl)) (pv 7)) (pe_ix (kx_list (K := K) rfl) (pv 2) (pv 6) (fun _ _ => rfl)) (nomark _)))))
            (pss_cons (ps_asg (pe_op op_add (pe_ix (kx_list (K := K) rfl) (pv 2) (pv 5) (fun _ _ => rfl)) (pv 7)) (pg_sub (pv 2) (pv 6) set_list))
            (pss_one (ps_dput hu (pv 4) (pv 6) pe_bl rfl)))
            pss_nil)))))
      (pss_one (ps_set (i := 3) sc_MoveWeb_closed.nd rfl (by first | exact Or.inl rfl | exact Or.inr rfl) (pe_callTy (kc_listD rfl) (by rfl) T.z_list (by decide +kernel) (pa_cons (pv 4) pa_nil)))))))
    (pss_one (ps_ret (pv 2)))))), ?_⟩
    obtain ⟨a, xs, rfl, ha, hxs⟩ := id hrow
    have hxo := hxs.opts
    subst hxo
    have hfew := sd.few
    have hlen := hA.len
    -- told = list(row)
    refine ⟨_, rfl, a, _, rfl, .inl (SqL.of ha), fun p hp => ?_⟩
    have e0 : Fe H (upd H p (.lst (row.map oV))) := Fe.new hp
    -- fresh
    refine ⟨_, rfl, p, _, rfl, SqL.of upd_same, fun F hF => lc_by row.length (fun i H' => Cmp rN _ F (fr row i) H' ∧ H' p = some (.lst (row.map oV))) ⟨Cmp.start hF, by rw [upd_ne (ne_of_none upd_same hF)]; exact upd_same⟩ (fun i H' hi c => ?_) (fun H' c => ?_) ?_ ?_⟩
    · exact enum_go c.2 (by rw [List.length_map]; exact hi)
    · exact enum_stop c.2 (by rw [List.length_map]; exact Nat.le_refl _)
    · intro i x H' H4 hi c hyd
      obtain ⟨U, y, rfl, hU, rfl, hy⟩ := enum_yld c.2 hyd
      clear hyd
      rw [at_oV (List.getElem?_eq_getElem hi)] at hy
      cases hy
      have fU : Fe H' (upd H' U (.tup [.int (i : Int), oV row[i]])) := Fe.new hU
      refine ⟨U, _, rfl, SqT.of upd_same, rfl, _, _, rfl, _, _, rfl, rfl, rfl, ?_⟩
      have q := fr_succ row i
      rw [List.getElem?_eq_getElem hi] at q
      have hfl : (fr row i).length < 1000000 := by have := fr_len row i; omega
      have nF : p ≠ F := ne_of_none upd_same hF
      cases hc : row[i] with
      | none =>
        rw [hc] at q
        rw [show fr row (i + 1) = fr row i from q.trans (List.append_nil _)]
        rw [hc] at fU
        exact ⟨_, rfl, rfl, _, rfl, iteF ⟨c.1.skip fU, fU.k c.2⟩⟩
      | some d =>
        rw [hc] at q
        rw [show fr row (i + 1) = fr row i ++ [i] from q]
        rw [hc] at fU
        refine ⟨_, rfl, rfl, _, rfl, iteT ⟨_, rfl, ?_⟩⟩
        obtain ⟨acc, h1, h2, h3⟩ := c.1.add hfl fU (show rN _ (vN i) i from rfl)
        exact ⟨acc, h1, h2, h3, by rw [upd_ne nF]; exact fU.k c.2⟩
    · intro H1 c
      obtain ⟨_, xs0, eF, hFx, hFl⟩ := c.1.rl
      cases eF
      have e1 := e0.trans c.1.fe
      obtain ⟨M, hM⟩ := row_max row
      obtain ⟨D, hD⟩ := list_max (b.2.map fun e => e.2.2)
      have hDS : ∀ h to d, Told b m sts none h to d → d ≤ D := fun h to d t => by
        rcases told_cost t with rfl | h
        · exact Nat.zero_le _
        · exact hD _ h
      have hfn := hFl.nats
      subst hfn
      have nF : F ≠ p := (ne_of_none upd_same hF).symm
      have hn : ∀ h c, row[h]? = some (some c) → h < row.length := fun h c e => (List.getElem?_eq_some_iff.mp e).1
      refine ⟨CLW sf a p H sts.length (Told b m sts none) A M D, ⟨_, row, fr row row.length, F, _, _, _, _, _, rfl, e1, nF, c.2, hFx, .start hA hM, fun h hh => ?_, fun h to d hnot s c' hc' => ?_, rfl⟩, ?_⟩
      · obtain ⟨h1, h2⟩ := fr_mem.mp hh
        exact ⟨by omega, h2⟩
      · exact absurd (fr_mem.mpr ⟨hn h c' hc', c', hc'⟩) hnot
      clear hFx hFl nF c
      rintro k σ' H' ⟨told, fs, F, o4, o5, o6, o7, o8, rfl, e, nF, hP, hFx, R, hfs, rx, rfl⟩
      refine ⟨_, rfl, !(fs.map vN).isEmpty, .inl ⟨_, SqL.of hFx, rfl⟩, ?_⟩
      cases hfse : fs with
      | nil =>
        subst hfse
        exact iteF ⟨_, rfl, kk p H' told e hp hP (R.done fun k to d s => rx k to d (by simp) s)⟩
      | cons f0 fs0 =>
        refine iteT ⟨fun σ2 H2 => ∃ k', k' < 2 * Phi (M + sts.length * D) told + (if f0 :: fs0 = [] then 0 else 1) ∧ CLW sf a p H sts.length (Told b m sts none) A M D k' σ2 H2, fun _ _ z => z, ?_⟩
        rw [← hfse]
        have hne : fs ≠ [] := by rw [hfse]; exact fun z => nomatch z
        clear hfse f0 fs0
        rw [if_neg hne]
        intro G hG
        have eG : Fe H' (upd H' G (.dK [])) := Fe.new hG
        refine ⟨_, rfl, F, rfl, ⟨_, SqL.of (eG.k hFx)⟩, for_lst (xs := fs.map vN) (fun i σ' H2 => ∃ (told' : CRow) (ks : List Nat) (o5 o6 o7 o8 : Option V), σ' = [some (.ref sf), some (.ref a), some (.ref p), some (.ref F), some (.ref G), o5, o6, o7, o8] ∧ Fe H H2 ∧
          H2 p = some (.lst (told'.map oV)) ∧ H2 F = some (.lst (fs.map vN)) ∧ H2 G = some (.dK (tks kN ks)) ∧ ks.Nodup ∧ Rlx sts.length (Told b m sts none) A M D told' ∧ (∀ h ∈ fs, h < sts.length ∧ ∃ c, told'[h]? = some (some c)) ∧
          (∀ h ∈ ks, h < sts.length ∧ ∃ c, told'[h]? = some (some c)) ∧ Rxs (Told b m sts none) told' (fun h => h ∈ fs.drop i ∨ h ∈ ks) ∧ Phi (M + sts.length * D) told' ≤ Phi (M + sts.length * D) told ∧ (ks ≠ [] → Phi (M + sts.length * D) told' < Phi (M + sts.length * D) told))
          ⟨told, [], _, _, _, _, rfl, e.trans eG, eG.k hP, eG.k hFx, upd_same, List.nodup_nil, R, hfs, (fun _ z => nomatch z), fun h to d q s => rx h to d (fun z => q (.inl z)) s, Nat.le_refl _, fun z => absurd rfl z⟩ (fun i σ' H2 _ ⟨_, _, _, _, _, _, _, _, _, q, _⟩ => q) ?_ ?_⟩
        · rintro i x σ' H2 hx ⟨told', ks, o5, o6, o7, o8, rfl, e2, hP2, hF2, hG2, hkn, R2, hfs2, hks2, rx2, ph1, ph2⟩
          have hi : i < fs.length := by
            have := (List.getElem?_eq_some_iff.mp hx).1
            rwa [List.length_map] at this
          rw [List.getElem?_map, List.getElem?_eq_getElem hi] at hx
          cases hx
          obtain ⟨hhn, c, hc⟩ := hfs2 fs[i] (List.getElem_mem hi)
          have hdrop : fs.drop i = fs[i] :: fs.drop (i + 1) := List.drop_eq_getElem_cons hi
          rw [hdrop] at rx2
          generalize fs[i] = h at hhn hc hdrop rx2 ⊢
          obtain ⟨H0, L, dx, vb, vm, as, ss, ah, rd, W, Rw⟩ := id hw
          obtain ⟨p0, hp0, hins⟩ := W.ins
          obtain ⟨d, q, ys, mv, hd, hd1, hq, hys, hal, hmv⟩ := Rw.here W.mats (j := 0) (k := none) rfl hhn
          have ep : p0 = d.1 := by
            rw [List.getElem?_map, hd] at hp0
            exact (Option.some.inj hp0).symm
          subst ep
          refine ⟨_, rfl, sf, _, dx, _, _, rfl, e2.k hins, T.cl_MoveWeb, T.na_MoveWeb_silent, wfl_l, _, rfl, d.1, _, _, .ref q, rfl, rfl, SqL.of (e2.k hd1), atI_nat (by rw [List.getElem?_map, hq]; rfl), q, rfl, ⟨_, SqL.of (e2.k hys)⟩, for_lst (xs := ys) (CLI sf a p F G H sts.length (Told b m sts none) A M D fs i h c (Phi (M + sts.length * D) told) mv)
            ⟨told', ks, _, _, _, rfl, e2, hP2, hF2, hG2, hkn, R2, hfs2, hks2, hc, fun h' to d z s => rx2 h' to d (fun z' => z (z'.elim (fun z' => (List.mem_cons.mp z').elim (fun z' => .inr (.inr z')) .inl) (fun z' => .inr (.inl z')))) s, (fun _ _ z => nomatch z), ph1, ph2⟩
            (fun j σ' H2 _ ⟨_, _, _, _, _, _, e, _⟩ => e.k hys) ?_ ?_⟩
          · clear hdrop rx2 hks2 hfs2 hkn hG2 hF2 hP2 e2 R2 hc ph1 ph2
            rintro j x σ' H3 hx ⟨told1, k1, o6, o7, o8, rfl, e3, hP3, hF3, hG3, hkn, R3, hfs3, hks3, hc, rx3, hmj, ph1, ph2⟩
            obtain ⟨⟨to, cost, u⟩, hto, hxr⟩ := hal.get hx
            obtain ⟨ua, x1, x2, x3, rfl, hua, rfl, rfl, _⟩ := id hxr
            have hS : Told b m sts none h to cost := (hmv to cost).mp (List.mem_of_getElem? hto)
            have hton := (told_lt hS).2
            obtain ⟨oo, hto1⟩ : ∃ oo, told1[to]? = some oo := ⟨told1[to]'(by rw [R3.len]; exact hton), List.getElem?_eq_getElem (by rw [R3.len]; exact hton)⟩
            have htk : mv.take (j + 1) = mv.take j ++ [(to, cost, u)] := by rw [List.take_add_one, hto]; rfl
            have hkl : k1.length ≤ 4000 := Nat.le_trans (nodup_below sts.length k1 hkn fun x hx => (hks3 x hx).1) hfew
            refine ⟨ua, _, rfl, SqT.of (e3.k hua), rfl, _, _, rfl, _, _, rfl, _, _, rfl, rfl, ?_⟩
            have nGp : G ≠ p := ne_of hG3 hP3 (fun z => nomatch z)
            have nFG : F ≠ G := ne_of hF3 hG3 (fun z => nomatch z)
            have fin : Bet oo (c + cost) → CLI sf a p F G H sts.length (Told b m sts none) A M D fs i h c (Phi (M + sts.length * D) told) mv (j + 1) [some (.ref sf), some (.ref a), some (.ref p), some (.ref F), some (.ref G), some (vN h), some (vN to), some (vN cost), some x3]
                (upd (upd H3 p (.lst ((told1.map oV).set to (vN (c + cost))))) G (.dK (putK (tks kN k1) (kN to) (.bl true)))) := by
              intro hb
              obtain ⟨R4, ph4⟩ := R3.put hc hS (hDS _ _ _ hS) hto1 hb
              have hne : h ≠ to := by
                intro z
                subst z
                rw [hc] at hto1
                cases hto1
                exact absurd (hb c rfl) (by omega)
              refine ⟨told1.set to (some (c + cost)), ins to k1, _, _, _, rfl, (e3.mut hp).mut (e.free hG), ?_, ?_, ?_, nd_ins hkn, R4, fun x hx => ⟨(hfs3 x hx).1, ?_⟩, fun x hx => ?_, ?_, fun h' t2 d2 z s => ?_, fun t2 d2 hm => ?_, by omega, fun _ => by omega⟩
              · rw [upd_ne nGp.symm, upd_same, set_oV]
              · rw [upd_ne nFG, upd_ne nF]; exact hF3
              · rw [upd_same, tks_put kN kN_inj]
              · obtain ⟨c', hc'⟩ := (hfs3 x hx).2
                exact some_set hc'
              · rcases mem_ins.mp hx with rfl | hx
                · exact ⟨hton, c + cost, by rw [List.getElem?_set, if_pos rfl, if_pos (List.getElem?_eq_some_iff.mp hto1).1]⟩
                · obtain ⟨c', hc'⟩ := (hks3 x hx).2
                  exact ⟨(hks3 x hx).1, some_set hc'⟩
              · rw [List.getElem?_set, if_neg hne.symm]; exact hc
              · have n1 : h' ≠ to := fun q => z (.inr (.inl (mem_ins.mpr (.inl q))))
                exact Rx.put hto1 hb n1 (rx3 h' t2 d2 (fun q => z (q.elim .inl fun q => q.elim (fun q => .inr (.inl (mem_ins.mpr (.inr q)))) fun q => .inr (.inr q))) s)
              · rw [htk] at hm
                rcases List.mem_append.mp hm with hm | hm
                · exact Rx.put hto1 hb hne (hmj t2 d2 hm)
                · have q := List.mem_singleton.mp hm
                  injection q with q1 q2
                  injection q2 with q2 _
                  subst q1 q2
                  exact Rx.here hc hto1 hb
            have stay : ¬ Bet oo (c + cost) → CLI sf a p F G H sts.length (Told b m sts none) A M D fs i h c (Phi (M + sts.length * D) told) mv (j + 1) [some (.ref sf), some (.ref a), some (.ref p), some (.ref F), some (.ref G), some (vN h), some (vN to), some (vN cost), some x3] H3 := by
              intro hb
              refine ⟨told1, k1, _, _, _, rfl, e3, hP3, hF3, hG3, hkn, R3, hfs3, hks3, hc, rx3, fun t2 d2 hm => ?_, ph1, ph2⟩
              rw [htk] at hm
              rcases List.mem_append.mp hm with hm | hm
              · exact hmj t2 d2 hm
              · have q := List.mem_singleton.mp hm
                injection q with q1 q2
                injection q2 with q2 _
                subst q1 q2
                exact Rx.well hc hto1 hb
            have sz : (tks kN k1).length + 1 ≤ sizeLine := by rw [tks_len, sizeLine_eq]; omega
            have hto2 : to < (told1.map oV).length := by rw [List.length_map]; exact (List.getElem?_eq_some_iff.mp hto1).1
            have hG4 : (upd H3 p (.lst ((told1.map oV).set to (vN (c + cost))))) G = some (.dK (tks kN k1)) := by rw [upd_ne nGp]; exact hG3
            refine ⟨_, rfl, _, rfl, p, _, _, _, rfl, rfl, SqL.of hP3, atI_nat (at_oV hto1), rfl, _, rfl, ?_⟩
            cases oo with
            | none =>
              refine iteT (iteT ?_)
              refine ⟨_, rfl, _, rfl, p, _, _, _, rfl, rfl, SqL.of hP3, atI_nat (at_oV hc), _, rfl, _, _, rfl, rfl, _, rfl, _, rfl, p, _, _, _, rfl, rfl, hP3, ixn hto2, ?_⟩
              exact ⟨_, rfl, _, rfl, G, _, rfl, DPut.k (k := kN to) hG4 sz, fin bet_none⟩
            | some e4 =>
              refine iteF ⟨_, rfl, _, rfl, p, _, _, _, rfl, rfl, SqL.of hP3, atI_nat (at_oV hc), _, rfl, _, _, rfl, rfl, _, rfl, _, rfl, p, _, _, _, rfl, rfl, SqL.of hP3, atI_nat (at_oV hto1), _, _, rfl, rfl, _, rfl, ?_⟩
              by_cases hl : c + cost < e4
              · rw [decide_eq_true (show ((c : Int) + (cost : Int) < (e4 : Int)) by omega)]
                refine iteT ?_
                refine ⟨_, rfl, _, rfl, p, _, _, _, rfl, rfl, SqL.of hP3, atI_nat (at_oV hc), _, rfl, _, _, rfl, rfl, _, rfl, _, rfl, p, _, _, _, rfl, rfl, hP3, ixn hto2, ?_⟩
                exact ⟨_, rfl, _, rfl, G, _, rfl, DPut.k (k := kN to) hG4 sz, fin (bet_some.mpr hl)⟩
              · rw [decide_eq_false (show ¬ ((c : Int) + (cost : Int) < (e4 : Int)) by omega)]
                exact iteF (stay fun z => hl (bet_some.mp z))
          · rintro σ' H3 ⟨told1, k1, o6, o7, o8, rfl, e3, hP3, hF3, hG3, hkn, R3, hfs3, hks3, hc, rx3, hmj, ph1, ph2⟩
            refine ⟨told1, k1, _, _, _, _, rfl, e3, hP3, hF3, hG3, hkn, R3, hfs3, hks3, fun h' to d z s => ?_, ph1, ph2⟩
            rw [hal.len, List.take_length] at hmj
            by_cases q : h' = h
            · subst q
              exact hmj to d ((hmv to d).mpr s)
            · exact rx3 h' to d (fun z' => z (z'.elim .inl fun z' => z'.elim .inr fun z' => absurd z' q)) s
        · rintro σ' H2 ⟨told', ks, o5, o6, o7, o8, rfl, e2, hP2, hF2, hG2, hkn, R2, hfs2, hks2, rx2, ph1, ph2⟩
          refine ⟨_, rfl, G, _, rfl, .inl hG2, fun F2 hF2n => ?_⟩
          have eF2 : Fe H2 (upd H2 F2 (.lst ((tks kN ks).map fun kv => kV kv.1))) := Fe.new hF2n
          refine ⟨_, ?_, told', ks, F2, _, _, _, _, _, rfl, e2.trans eF2, (ne_of_none hP2 hF2n).symm, eF2.k hP2, ?_, R2, hks2, fun h to d z s => rx2 h to d (fun z' => z'.elim (fun z2 => ?_) z) s, rfl⟩
          · by_cases z : ks = []
            · rw [if_pos z]; omega
            · rw [if_neg z]; have := ph2 z; omega
          · rw [upd_same]
            refine congrArg some (congrArg HO.lst ?_)
            unfold tks
            rw [List.map_map]; rfl
          · rw [List.length_map, List.drop_length] at z2
            exact nomatch z2
end
end Fm
namespace Fm
open PySem L2
def A0 (sts : List Stg) (h c : Nat) : Prop := sts[h]? = some (0, []) ∧ c = 0
def nxt (b : Book) (m : Mach) (sts : List Stg) (A : Nat → Nat → Prop) (x : Nat) : Nat → Nat → Prop := Cl (Told b m sts none) (Bh (Told b m sts (some x)) A)
def Rc (b : Book) (m : Mach) (sts : List Stg) (t : List Nat) : Nat → Nat → Prop := t.foldl (nxt b m sts) (Cl (Told b m sts none) (A0 sts))
/-- what a def that returns a cost row promises -/
def RowQ (H : Hp) (n : Nat) (A : Nat → Nat → Prop) (Q : VK) : Prop := ∀ (p : Addr) (H' : Hp) (row' : CRow), Fe H H' → H p = none → H' p = some (.lst (row'.map oV)) → LRow n A row' → Q (.ref p) H'
def spBegun (C : Addr) : Sp := fun vs H Q _ => ∃ (b : Book) (m : Mach) (sts : List Stg) (sf : Addr), vs = [.ref sf] ∧ Wb C b m sts H sf ∧ Std b m sts ∧ RowQ H sts.length (Cl (Told b m sts none) (A0 sts)) Q
def spBehind (C : Addr) : Sp := fun vs H Q _ => ∃ (b : Book) (m : Mach) (sts : List Stg) (sf : Addr) (v : V) (row : CRow) (A : Nat → Nat → Prop) (x : Nat), vs = [.ref sf, v, .str ⟨#[x]⟩] ∧ Wb C b m sts H sf ∧ Std b m sts ∧ rL (rO rN) H v row ∧ LRow sts.length A row ∧ x ∈ b.1 ∧
  RowQ H sts.length (nxt b m sts A x) Q
def spAlong (C : Addr) : Sp := fun vs H Q _ => ∃ (b : Book) (m : Mach) (sts : List Stg) (sf : Addr) (t : List Nat), vs = [.ref sf, .str ⟨t.toArray⟩] ∧ Wb C b m sts H sf ∧ Std b m sts ∧ (∀ x ∈ t, x ∈ b.1) ∧ RowQ H sts.length (Rc b m sts t) Q
def spLeastOf : Sp := fun vs H Q _ => ∃ (v : V) (l : CRow), vs = [v] ∧ rL (rO rN) H v l ∧ l.length ≤ 100000 ∧ ∀ H', Fe H H' → Q (oV (least fun c => some c ∈ l)) H'
theorem Std.start {b : Book} {m : Mach} {sts : List Stg} (s : Std b m sts) : ∃ i : Nat, sts[i]? = some (0, []) := s.ok.idx s.ok.mo.pos (.inl rfl)
theorem nxt_congr {b : Book} {m : Mach} {sts : List Stg} {n : Nat} {A : Nat → Nat → Prop} {x : Nat} {row : CRow} (h : LRow n A row) {told : CRow} (L : LRow n (Bh (Told b m sts (some x)) fun h c => row[h]? = some (some c)) told) : LRow n (Bh (Told b m sts (some x)) A) told :=
  L.imp (fun to c ⟨h0, c0, d, h1, h2, h3⟩ => ⟨h0, c0, d, h.snd h0 c0 h1, h2, h3⟩) (fun to c ⟨h0, c0, d, h1, h2, h3⟩ => by
    obtain ⟨c', h4, h5⟩ := h.low h0 c0 h1
    exact ⟨c' + d, ⟨h0, c', d, h4, h2, rfl⟩, by omega⟩)
section
variable {P : Program} {w : World} {K : PySem.W.Frag} {g : Str → Option Value} {base : Heap}
theorem ok_MoveWeb_begun (T : Txt K g) : FnOk P w K g base CX0 2 T.d_MoveWeb_begun.f T.d_MoveWeb_begun.fd P_MoveWeb_begun (spBegun T.c_MoveWeb) := by
  refine T.d_MoveWeb_begun.F.ok sc_MoveWeb_begun (fun vs H Q E h => ?_) (fun cdv A outer s H vs Q E hr h => ?_)
  · obtain ⟨_, _, _, _, rfl, _⟩ := h
    rfl
  · obtain ⟨b, m, sts, sf, rfl, hw, sd, kk⟩ := h
    have hu := hu_of hr
    refine ⟨_, (pss_cons (ps_set (i := 1) sc_MoveWeb_begun.nd rfl (by first | exact Or.inl rfl | exact Or.inr rfl) (pe_op op_rep (pe_lst (pa_cons pe_non pa_nil)) (pe_callB (kc_len (K := K) rfl) (by rfl) T.z_len PySem.boot_len (pa_cons (ke_fld (K := K) rfl (pv 0) rfl) pa_nil))))
    (pss_cons (ps_asg pe_int (pg_sub (pv 1) (pe_dget hu (ke_fld (K := K) rfl (pv 0) rfl) (pe_tup (pa_cons pe_int (pa_cons pe_str pa_nil))) (fun _ _ => rfl)) set_list))
    (pss_one (ps_ret (pe_meth (pv 0) T.cl_MoveWeb T.d_MoveWeb_closed.m (ok_MoveWeb_closed T) (hr.mono (by decide)) T.d_MoveWeb_closed.b .nil pass0 (pa_cons (pv 1) pa_nil)))))), ?_⟩
    obtain ⟨H0, L, dx, vb, vm, as, ss, ah, rd, W, Rw⟩ := id hw
    obtain ⟨p0, hp0, hins⟩ := W.ins
    have hfew := sd.few
    have hsl := W.hx.len
    refine ⟨by show 1 ≤ sizeLine; decide, fun p1 hp1 => ?_⟩
    have f1 : Fe H (upd H p1 (.lst [V.non])) := Fe.new hp1
    refine ⟨_, rfl, sf, _, dx, _, _, rfl, f1.k hins, T.cl_MoveWeb, T.na_MoveWeb_standings, wfl_s, as, ss, rfl, .inl (SqL.of (f1.k W.hs)), p1, _, _, rfl, rfl, upd_same, by omega, by omega, by rw [sizeLine_eq]; simp only [List.length_singleton]; omega, fun p hp => ?_⟩
    have en : (List.replicate ((ss.length : Nat) : Int).toNat [V.non]).flatten = (List.replicate sts.length none : CRow).map oV := by
      rw [rep_oV, Int.toNat_natCast, hsl]
    rw [en]
    obtain ⟨i0, hi0⟩ := sd.start
    have f2 := f1.trans (Fe.new (o := .lst ((List.replicate sts.length none : CRow).map oV)) hp)
    refine ⟨_, rfl, _, rfl, sf, _, dx, _, _, rfl, f2.k hins, T.cl_MoveWeb, T.na_MoveWeb_homes, wfl_h, by show 2 ≤ sizeLine; decide, fun U hU => ?_⟩
    have g1 : (upd (upd (upd H p1 (.lst [V.non])) p (.lst ((List.replicate sts.length none : CRow).map oV))) U (.tup [.int 0, .str ""])) U = some (.tup ((kSt (0, [])).map kV)) := by rw [upd_same, str_nil]; rfl
    have fU := Fe.new (o := .tup [.int 0, .str ""]) hU
    have f3 := f2.trans fU
    have hi : i0 < sts.length := (List.getElem?_eq_some_iff.mp hi0).1
    have pU : (upd (upd (upd H p1 (.lst [V.non])) p (.lst ((List.replicate sts.length none : CRow).map oV))) U (.tup [.int 0, .str ""])) p = some (.lst ((List.replicate sts.length none : CRow).map oV)) := fU.k upd_same
    refine ⟨ah, .int (i0 : Int), rfl, by rw [← hkvs_at sd.ok.nd hi0]; exact DGet.t (f3.k W.hh) g1, p, _, _, _, rfl, rfl, pU, ixn (by rw [List.length_map, List.length_replicate]; exact hi), ?_⟩
    have hpn : H p = none := f1.free hp
    have f4 := f3.mut (o := .lst (((List.replicate sts.length none : CRow).map oV).set i0 (.int 0))) hpn
    refine ⟨_, rfl, sf, dx, _, rfl, f4.k hins, wfl_no (by decide +kernel) (by decide +kernel) (by decide +kernel) (by decide +kernel) (by decide +kernel) (by decide +kernel), _, rfl, ?_⟩
    refine ⟨b, m, sts, sf, .ref p, (List.replicate sts.length none : CRow).set i0 (some 0), A0 sts, rfl, hw.f f4, sd, ⟨p, _, rfl, upd_same, ?_⟩, ?_, fun p2 H' row' e hp2 hH' hL => kk p2 H' row' (f4.trans e) (f4.free hp2) hH' hL⟩
    · have := set_oV (List.replicate sts.length none) i0 0
      rw [show (V.int 0) = vN 0 from rfl, this]
      exact Al.ofOpts _
    · have R0 := (LRow.nothing sts.length).put (to := i0) (v := 0) (o := none) (by rw [List.getElem?_replicate, if_pos hi]) bet_none
      refine R0.imp (fun h c z => ?_) (fun h c z => ⟨c, .inr ⟨?_, z.2⟩, Nat.le_refl _⟩)
      · rcases z with z | ⟨rfl, rfl⟩
        · exact z.elim
        · exact ⟨hi0, rfl⟩
      · exact nd_ix sd.ok.nd z.1 hi0
theorem ok_MoveWeb_behind (T : Txt K g) : FnOk P w K g base CX0 2 T.d_MoveWeb_behind.f T.d_MoveWeb_behind.fd P_MoveWeb_behind (spBehind T.c_MoveWeb) := by
  refine T.d_MoveWeb_behind.F.ok sc_MoveWeb_behind (fun vs H Q E h => ?_) (fun cdv A outer s H vs Q E hr h => ?_)
  · obtain ⟨_, _, _, _, _, _, _, _, rfl, _⟩ := h
    rfl
  · obtain ⟨b, m, sts, sf, v, row, B, x, rfl, hw, sd, hrow, hA, hx, kk⟩ := h
    have hu := hu_of hr
    refine ⟨_, (pss_cons (ps_set (i := 3) sc_MoveWeb_behind.nd rfl (by first | exact Or.inl rfl | exact Or.inr rfl) (pe_op op_rep (pe_lst (pa_cons pe_non pa_nil)) (pe_callB (kc_len (K := K) rfl) (by rfl) T.z_len PySem.boot_len (pa_cons (pv 1) pa_nil))))
    (pss_cons (ps_for PassesOwn.never rfl (ki_enum (K := K) rfl rfl T.z_enumerate (pa_cons (pv 1) pa_nil)) (kg_tup (K := K) 2 rfl rfl (pgs_cons (pg_name (i := 4) sc_MoveWeb_behind.nd rfl (by first | exact Or.inl rfl | exact Or.inr rfl)) (pgs_cons (pg_name (i := 5) sc_MoveWeb_behind.nd rfl (by first | exact Or.inl rfl | exact Or.inr rfl)) pgs_nil)))
      (pss_one (ps_if (pt_cmpR op_notN (pv 5) pe_non (nomark _))
        (pss_one (ps_for PassesOwn.never rfl (ki_list (K := K) rfl (pe_ix (kx_list (K := K) rfl) (pe_dget hu (ke_fld (K := K) rfl (pv 0) rfl) (pv 2) (fun _ _ => rfl)) (pv 4) (fun _ _ => rfl))) (kg_tup (K := K) 3 rfl rfl (pgs_cons (pg_name (i := 6) sc_MoveWeb_behind.nd rfl (by first | exact Or.inl rfl | exact Or.inr rfl)) (pgs_cons (pg_name (i := 7) sc_MoveWeb_behind.nd rfl (by first | exact Or.inl rfl | exact Or.inr rfl)) (pgs_cons (pg_name (i := 8) sc_MoveWeb_behind.nd rfl (by first | exact Or.inl rfl | exact Or.inr rfl)) pgs_nil))))
          (pss_one (ps_if (PW.pt (pw_or (pt_cmpR op_isN (pe_ix (kx_list (K := K) rfl) (pv 3) (pv 6) (fun _ _ => rfl)) pe_non (nomark _)) (pw_or1 (pt_cmpR op_lt (pe_op op_add (pv 5) (pv 7)) (pe_ix (kx_list (K := K) rfl) (pv 3) (pv 6) (fun _ _ => rfl)) (nomark _)))))
            (pss_one (ps_asg (pe_op op_add (pv 5) (pv 7)) (pg_sub (pv 3) (pv 6) set_list)))
            pss_nil))))
        pss_nil)))
    (pss_one (ps_ret (pe_meth (pv 0) T.cl_MoveWeb T.d_MoveWeb_closed.m (ok_MoveWeb_closed T) (hr.mono (by decide)) T.d_MoveWeb_closed.b .nil pass0 (pa_cons (pv 3) pa_nil)))))), ?_⟩
    obtain ⟨H0, L, dx, vb, vm, as, ss, ah, rd, W, Rw⟩ := id hw
    obtain ⟨p0, hp0, hins⟩ := W.ins
    have hfew := sd.few
    obtain ⟨a, xs, rfl, ha, hxs⟩ := id hrow
    have hxo := hxs.opts
    subst hxo
    have hlen := hA.len
    refine ⟨by show 1 ≤ sizeLine; decide, fun p1 hp1 => ?_⟩
    have f1 : Fe H (upd H p1 (.lst [V.non])) := Fe.new hp1
    refine ⟨_, rfl, a, _, rfl, .inl (SqL.of (f1.k ha)), p1, _, _, rfl, rfl, upd_same, by omega, by rw [List.length_map]; omega, by rw [sizeLine_eq, List.length_map]; simp only [List.length_singleton]; omega, fun p hp => ?_⟩
    have en : (List.replicate (((row.map oV).length : Nat) : Int).toNat [V.non]).flatten = (List.replicate sts.length none : CRow).map oV := by
      rw [rep_oV, Int.toNat_natCast, List.length_map, hlen]
    rw [en]
    have f2 := f1.trans (Fe.new (o := .lst ((List.replicate sts.length none : CRow).map oV)) hp)
    have hpn : H p = none := f1.free hp
    have hyl := hx
    obtain ⟨jj, hjj⟩ := List.mem_iff_getElem?.mp hyl
    have hkj : (keysOf b)[jj + 1]? = some (some x) := by
      show (b.1.map some)[jj]? = _
      rw [List.getElem?_map, hjj]; rfl
    -- for home, cost in enumerate(row)
    refine ⟨_, rfl, a, _, rfl, SqL.of (f2.k ha), for_enum (xs := row.map oV) (fun i σ' H' => ∃ (told : CRow) (o4 o5 o6 o7 o8 : Option V), σ' = [some (.ref sf), some (.ref a), some (.str ⟨#[x]⟩), some (.ref p), o4, o5, o6, o7, o8] ∧ Fe H H' ∧ H' p = some (.lst (told.map oV)) ∧
      LRow sts.length (Bh (Told b m sts (some x)) fun h c => h < i ∧ row[h]? = some (some c)) told)
      ⟨_, _, _, _, _, _, rfl, f2, upd_same, (LRow.nothing sts.length).imp (fun _ _ z => z.elim) (fun _ _ ⟨_, _, _, z, _⟩ => absurd z.1 (by omega))⟩ (fun i σ' H' _ ⟨_, _, _, _, _, _, _, e, _⟩ => e.k ha) ?_ ?_⟩
    · rintro i y σ' H' U hy ⟨told, o4, o5, o6, o7, o8, rfl, e, hP, R⟩ hU
      have hi : i < row.length := by
        have := (List.getElem?_eq_some_iff.mp hy).1
        rwa [List.length_map] at this
      rw [List.getElem?_map, List.getElem?_eq_getElem hi] at hy
      cases hy
      have fU : Fe H' (upd H' U (.tup [.int (i : Int), oV row[i]])) := Fe.new hU
      have e2 := e.trans fU
      have hP2 := fU.k hP
      refine ⟨U, _, rfl, SqT.of upd_same, rfl, _, _, rfl, _, _, rfl, rfl, ?_⟩
      have hri : row[i]? = some row[i] := List.getElem?_eq_getElem hi
      clear fU
      revert hri e2 hP2
      generalize row[i] = o
      intro e2 hP2 hri
      cases o with
      | none =>
        refine ⟨_, rfl, rfl, _, rfl, iteF ⟨told, _, _, _, _, _, rfl, e2, hP2, R.imp (fun to c ⟨h0, c0, d, h1, h2, h3⟩ => ⟨h0, c0, d, ⟨by omega, h1.2⟩, h2, h3⟩) (fun to c ⟨h0, c0, d, h1, h2, h3⟩ => ⟨c, ⟨h0, c0, d, ⟨?_, h1.2⟩, h2, h3⟩, Nat.le_refl _⟩)⟩⟩
        have : h0 ≠ i := fun z => by rw [z, hri] at h1; exact nomatch h1.2
        omega
      | some c0 =>
        refine ⟨_, rfl, rfl, _, rfl, iteT ?_⟩
        have hin : i < sts.length := by omega
        obtain ⟨d, q, ys, mv, hd, hd1, hq, hys, hal, hmv⟩ := Rw.here W.mats hkj hin
        have hd2' : ((L.map (·.1)).tail)[jj]? = some d.1 := by rw [List.getElem?_tail, List.getElem?_map, hd]; rfl
        refine ⟨_, rfl, sf, _, dx, _, _, rfl, e2.k hins, T.cl_MoveWeb, T.na_MoveWeb_reading, wfl_r, _, rfl, rd, .ref d.1, rfl, by rw [← rkvs_at sd.ok.ln hjj hd2']; exact DGet.k (k := kS [x]) (e2.k W.hr), _, rfl, d.1, _, _, .ref q, rfl, rfl, SqL.of (e2.k hd1), atI_nat (by rw [List.getElem?_map, hq]; rfl), q, rfl, ⟨_, SqL.of (e2.k hys)⟩,
          for_lst (xs := ys) (fun j σ' H' => ∃ (told : CRow) (o6 o7 o8 : Option V), σ' = [some (.ref sf), some (.ref a), some (.str ⟨#[x]⟩), some (.ref p), some (vN i), some (vN c0), o6, o7, o8] ∧ Fe H H' ∧ H' p = some (.lst (told.map oV)) ∧
            LRow sts.length (fun to c => Bh (Told b m sts (some x)) (fun h c => h < i ∧ row[h]? = some (some c)) to c ∨ ∃ d, (to, d, ()) ∈ mv.take j ∧ c = c0 + d) told)
            ⟨told, _, _, _, rfl, e2, hP2, R.imp (fun _ _ => .inl) (fun to c z => by
              rcases z with z | ⟨_, z, _⟩
              · exact ⟨c, z, Nat.le_refl _⟩
              · exact nomatch z)⟩ (fun j σ' H2 _ ⟨_, _, _, _, _, e, _⟩ => e.k hys) ?_ ?_⟩
        · clear e2 hP2 hP R e
          rintro j y σ' H3 hy ⟨told, o6, o7, o8, rfl, e, hP, R⟩
          obtain ⟨⟨to, cost, u⟩, hto, hxr⟩ := hal.get hy
          obtain ⟨ua, x1, x2, x3, rfl, hua, rfl, rfl, _⟩ := id hxr
          have hS : Told b m sts (some x) i to cost := (hmv to cost).mp (List.mem_of_getElem? hto)
          have hton := (told_lt hS).2
          obtain ⟨oo, hto1⟩ : ∃ oo, told[to]? = some oo := ⟨told[to]'(by rw [R.len]; exact hton), List.getElem?_eq_getElem (by rw [R.len]; exact hton)⟩
          have htk : mv.take (j + 1) = mv.take j ++ [(to, cost, u)] := by rw [List.take_add_one, hto]; rfl
          have hto2 : to < (told.map oV).length := by rw [List.length_map]; exact (List.getElem?_eq_some_iff.mp hto1).1
          have cong : ∀ told' : CRow, LRow sts.length (fun h c => (Bh (Told b m sts (some x)) (fun h c => h < i ∧ row[h]? = some (some c)) h c ∨ ∃ d, (h, d, ()) ∈ mv.take j ∧ c = c0 + d) ∨ (h = to ∧ c = c0 + cost)) told' →
              LRow sts.length (fun to c => Bh (Told b m sts (some x)) (fun h c => h < i ∧ row[h]? = some (some c)) to c ∨ ∃ d, (to, d, ()) ∈ mv.take (j + 1) ∧ c = c0 + d) told' := fun told' R' => by
            rw [htk]
            refine R'.imp ?_ ?_
            · rintro h c ((z | ⟨d, z1, z2⟩) | ⟨rfl, rfl⟩)
              · exact .inl z
              · exact .inr ⟨d, List.mem_append_left _ z1, z2⟩
              · exact .inr ⟨cost, List.mem_append_right _ (List.mem_singleton.mpr rfl), rfl⟩
            · rintro h c (z | ⟨d, z1, z2⟩)
              · exact ⟨c, .inl (.inl z), Nat.le_refl _⟩
              · rcases List.mem_append.mp z1 with z1 | z1
                · exact ⟨c, .inl (.inr ⟨d, z1, z2⟩), Nat.le_refl _⟩
                · have q := List.mem_singleton.mp z1
                  injection q with q1 q2
                  injection q2 with q2 _
                  subst q1 q2
                  exact ⟨c, .inr ⟨rfl, z2⟩, Nat.le_refl _⟩
          have fin : Bet oo (c0 + cost) → LRow sts.length (fun to c => Bh (Told b m sts (some x)) (fun h c => h < i ∧ row[h]? = some (some c)) to c ∨ ∃ d, (to, d, ()) ∈ mv.take (j + 1) ∧ c = c0 + d) (told.set to (some (c0 + cost))) := fun hb => cong _ (R.put hto1 hb)
          have stay : ¬ Bet oo (c0 + cost) → LRow sts.length (fun to c => Bh (Told b m sts (some x)) (fun h c => h < i ∧ row[h]? = some (some c)) to c ∨ ∃ d, (to, d, ()) ∈ mv.take (j + 1) ∧ c = c0 + d) told := fun hb => cong _ (R.keep hto1 hb)
          refine ⟨ua, _, rfl, SqT.of (e.k hua), rfl, _, _, rfl, _, _, rfl, _, _, rfl, rfl, ?_⟩
          refine ⟨_, rfl, _, rfl, p, _, _, _, rfl, rfl, SqL.of hP, atI_nat (at_oV hto1), rfl, _, rfl, ?_⟩
          have put : ∀ hb : Bet oo (c0 + cost), upd H3 p (.lst ((told.map oV).set to (vN (c0 + cost)))) p = some (.lst ((told.set to (some (c0 + cost))).map oV)) := fun _ => by rw [upd_same, set_oV]
          cases oo with
          | none =>
            refine iteT (iteT ?_)
            refine ⟨_, rfl, _, rfl, _, _, rfl, rfl, _, rfl, _, rfl, p, _, _, _, rfl, rfl, hP, ixn hto2, ?_⟩
            exact ⟨_, _, _, _, rfl, e.mut hpn, put bet_none, fin bet_none⟩
          | some e4 =>
            refine iteF ⟨_, rfl, _, rfl, _, _, rfl, rfl, _, rfl, _, rfl, p, _, _, _, rfl, rfl, SqL.of hP, atI_nat (at_oV hto1), _, _, rfl, rfl, _, rfl, ?_⟩
            by_cases hl : c0 + cost < e4
            · rw [decide_eq_true (show ((c0 : Int) + (cost : Int) < (e4 : Int)) by omega)]
              refine iteT ?_
              refine ⟨_, rfl, _, rfl, _, _, rfl, rfl, _, rfl, _, rfl, p, _, _, _, rfl, rfl, hP, ixn hto2, ?_⟩
              exact ⟨_, _, _, _, rfl, e.mut hpn, put (bet_some.mpr hl), fin (bet_some.mpr hl)⟩
            · rw [decide_eq_false (show ¬ ((c0 : Int) + (cost : Int) < (e4 : Int)) by omega)]
              exact iteF ⟨told, _, _, _, rfl, e, hP, stay fun z => hl (bet_some.mp z)⟩
        · rintro σ' H3 ⟨told, o6, o7, o8, rfl, e, hP, R⟩
          refine ⟨told, _, _, _, _, _, rfl, e, hP, ?_⟩
          rw [hal.len, List.take_length] at R
          refine R.imp ?_ ?_
          · rintro to c (⟨h0, c1, d, h1, h2, h3⟩ | ⟨d, h1, h2⟩)
            · exact ⟨h0, c1, d, ⟨by omega, h1.2⟩, h2, h3⟩
            · exact ⟨i, c0, d, ⟨by omega, hri⟩, (hmv to d).mp h1, h2⟩
          · rintro to c ⟨h0, c1, d, h1, h2, h3⟩
            refine ⟨c, ?_, Nat.le_refl _⟩
            by_cases z : h0 = i
            · subst z
              rw [hri] at h1
              cases h1.2
              exact .inr ⟨d, (hmv to d).mpr h2, h3⟩
            · exact .inl ⟨h0, c1, d, ⟨by omega, h1.2⟩, h2, h3⟩
    · rintro σ' H' ⟨told, o4, o5, o6, o7, o8, rfl, e, hP, R⟩
      refine ⟨_, rfl, sf, dx, _, rfl, e.k hins, wfl_no (by decide +kernel) (by decide +kernel) (by decide +kernel) (by decide +kernel) (by decide +kernel) (by decide +kernel), _, rfl, ?_⟩
      refine ⟨b, m, sts, sf, .ref p, told, Bh (Told b m sts (some x)) B, rfl, hw.f e, sd, ⟨p, _, rfl, hP, Al.ofOpts _⟩, nxt_congr hA ?_, fun p2 H2 row' e2 hp2 hH' hL => kk p2 H2 row' (e.trans e2) (e.free hp2) hH' hL⟩
      refine R.imp (fun to c ⟨h0, c0, d, h1, h2, h3⟩ => ⟨h0, c0, d, h1.2, h2, h3⟩) (fun to c ⟨h0, c0, d, h1, h2, h3⟩ => ⟨c, ⟨h0, c0, d, ⟨?_, h1⟩, h2, h3⟩, Nat.le_refl _⟩)
      rw [List.length_map]
      exact (List.getElem?_eq_some_iff.mp h1).1
theorem ok_MoveWeb_along (T : Txt K g) : FnOk P w K g base CX0 3 T.d_MoveWeb_along.f T.d_MoveWeb_along.fd P_MoveWeb_along (spAlong T.c_MoveWeb) := by
  refine T.d_MoveWeb_along.F.ok sc_MoveWeb_along (fun vs H Q E h => ?_) (fun cdv A outer s H vs Q E hr h => ?_)
  · obtain ⟨_, _, _, _, _, rfl, _⟩ := h
    rfl
  · obtain ⟨b, m, sts, sf, t, rfl, hw, sd, ht, kk⟩ := h
    have hu := hu_of hr
    refine ⟨_, (pss_cons (ps_set (i := 2) sc_MoveWeb_along.nd rfl (by first | exact Or.inl rfl | exact Or.inr rfl) (pe_meth0 (pv 0) T.cl_MoveWeb T.d_MoveWeb_begun.m (ok_MoveWeb_begun T) (hr.mono (by decide)) T.d_MoveWeb_begun.b .nil pass0))
    (pss_cons (ps_for PassesOwn.never rfl (pi_str (pv 1)) (pg_name (i := 3) sc_MoveWeb_along.nd rfl (by first | exact Or.inl rfl | exact Or.inr rfl))
      (pss_one (ps_set (i := 2) sc_MoveWeb_along.nd rfl (by first | exact Or.inl rfl | exact Or.inr rfl) (pe_meth (pv 0) T.cl_MoveWeb T.d_MoveWeb_behind.m (ok_MoveWeb_behind T) (hr.mono (by decide)) T.d_MoveWeb_behind.b .nil pass0 (pa_cons (pv 2) (pa_cons (pv 3) pa_nil))))))
    (pss_one (ps_ret (pv 2))))), ?_⟩
    obtain ⟨H0, L, dx, vb, vm, as, ss, ah, rd, W, Rw⟩ := id hw
    obtain ⟨p0, hp0, hins⟩ := W.ins
    refine ⟨_, rfl, sf, dx, _, rfl, hins, wfl_no (by decide +kernel) (by decide +kernel) (by decide +kernel) (by decide +kernel) (by decide +kernel) (by decide +kernel), ?_⟩
    refine ⟨b, m, sts, sf, rfl, hw, sd, fun p H1 row1 e1 hpn hP hL => ?_⟩
    refine ⟨_, rfl, _, rfl, for_str (l := t) (fun i σ' H' => ∃ (p : Addr) (row : CRow) (o3 : Option V), σ' = [some (.ref sf), some (.str ⟨t.toArray⟩), some (.ref p), o3] ∧ Fe H H' ∧ H p = none ∧ H' p = some (.lst (row.map oV)) ∧ LRow sts.length (Rc b m sts (t.take i)) row)
      ⟨p, row1, _, rfl, e1, hpn, hP, hL⟩ ?_ ?_⟩
    · rintro i x σ' H' hx ⟨p, row, o3, rfl, e, hpn, hP, hL⟩
      refine ⟨_, rfl, sf, dx, _, rfl, e.k hins, wfl_no (by decide +kernel) (by decide +kernel) (by decide +kernel) (by decide +kernel) (by decide +kernel) (by decide +kernel), _, rfl, _, rfl, ?_⟩
      refine ⟨b, m, sts, sf, .ref p, row, _, x, rfl, hw.f e, sd, ⟨p, _, rfl, hP, Al.ofOpts _⟩, hL, ht x (List.mem_of_getElem? hx), fun p2 H2 row2 e2 hp2 hH2 hL2 => ⟨p2, row2, _, rfl, e.trans e2, e.free hp2, hH2, ?_⟩⟩
      rw [List.take_add_one, hx]
      unfold Rc
      rw [List.foldl_append]
      exact hL2
    · rintro σ' H' ⟨p, row, o3, rfl, e, hpn, hP, hL⟩
      rw [List.take_length] at hL
      exact ⟨_, rfl, kk p H' row e hpn hP hL⟩
end
end Fm
namespace Fm
open PySem L2
/-- what is paid to a standing behind the text t -/
inductive Rs (b : Book) (m : Mach) : List Nat → Stg → Nat → Prop
  | beg : Rs b m [] (0, []) 0
  | sil {t : List Nat} {s s' : Stg} {c d : Nat} : Rs b m t s c → Sil b m s s' d → Rs b m t s' (c + d)
  | rea {t : List Nat} {s s' : Stg} {c d x : Nat} : Rs b m t s c → Rea b m x s s' d → Rs b m (t ++ [x]) s' (c + d)
/-- a standing that there is -/
def StOk (b : Book) (m : Mach) (s : Stg) : Prop := s.1 < m.1 ∧ Rest b s.2
theorem rest_tail {b : Book} {x : Nat} {r : List Nat} (h : Rest b (x :: r)) : Rest b r := by
  rcases h with h | ⟨e, k, h1, h2, h3, h4⟩
  · cases h
  · by_cases q : k + 1 < e.1.length
    · refine .inr ⟨e, k + 1, h1, by omega, q, ?_⟩
      have := congrArg List.tail h4
      rw [List.tail_drop] at this
      exact this
    · have hl := congrArg List.length h4
      rw [List.length_drop, List.length_cons] at hl
      have : r.length = 0 := by omega
      exact .inl (List.eq_nil_of_length_eq_zero this)
theorem rest_edit {b : Book} {x c : Nat} {rd wr : List Nat} (h : ((x :: rd, wr, c) : List Nat × List Nat × Nat) ∈ b.2) : Rest b rd := by
  cases rd with
  | nil => exact .inl rfl
  | cons y r => exact .inr ⟨_, 1, h, Nat.le_refl _, by simp, rfl⟩
theorem mv_stok {b : Book} {m : Mach} (ok : MOk m) {k : Option Nat} {s s' : Stg} {c : Nat} (h : StOk b m s) (mv : Mv b m k s s' c) : StOk b m s' := by
  cases k with
  | none =>
    obtain ⟨_, h2, wr, h3, h4⟩ := mv
    exact ⟨lead_em_lt ok h.1 h4, .inl h2⟩
  | some x =>
    rcases mv with ⟨r, h1, rfl, _⟩ | ⟨_, h2, h3, _⟩ | ⟨_, rd, wr, h2, h3, h4⟩
    · refine ⟨h.1, rest_tail (x := x) ?_⟩
      rw [← h1]; exact h.2
    · exact ⟨(ok.st _ h3).2, .inl h2⟩
    · exact ⟨lead_em_lt ok h.1 h4, h3 ▸ rest_edit h2⟩
theorem rs_stok {b : Book} {m : Mach} (ok : MOk m) {t : List Nat} {s : Stg} {c : Nat} (h : Rs b m t s c) : StOk b m s := by
  induction h with
  | beg => exact ⟨ok.pos, .inl rfl⟩
  | sil _ mv ih => exact mv_stok ok (k := none) ih mv
  | rea _ mv ih => exact mv_stok ok (k := some _) ih mv
theorem Rc.snoc (b : Book) (m : Mach) (sts : List Stg) (t : List Nat) (x : Nat) : Rc b m sts (t ++ [x]) = nxt b m sts (Rc b m sts t) x := by
  unfold Rc
  rw [List.foldl_append]; rfl
theorem told_at {b : Book} {m : Mach} {sts : List Stg} (o : SOk b m sts) {k : Option Nat} {h to c : Nat} {s : Stg} (e : sts[h]? = some s) : Told b m sts k h to c ↔ ∃ s', sts[to]? = some s' ∧ Mv b m k s s' c := by
  constructor
  · rintro ⟨s1, s', h1, h2, h3⟩
    rw [e] at h1; cases h1
    exact ⟨s', h2, h3⟩
  · rintro ⟨s', h2, h3⟩
    exact ⟨s, s', e, h2, h3⟩
theorem rc_rs {b : Book} {m : Mach} {sts : List Stg} (o : SOk b m sts) (t : List Nat) (h c : Nat) : Rc b m sts t h c ↔ ∃ s, sts[h]? = some s ∧ Rs b m t s c := by
  constructor
  · revert h c
    have cl : ∀ (t : List Nat) (A : Nat → Nat → Prop), (∀ h c, A h c → ∃ s, sts[h]? = some s ∧ Rs b m t s c) → ∀ h c, Cl (Told b m sts none) A h c → ∃ s, sts[h]? = some s ∧ Rs b m t s c := by
      intro t A hA h c z
      induction z with
      | beg z => exact hA _ _ z
      | step _ mv ih =>
        obtain ⟨s, h1, h2⟩ := ih
        obtain ⟨s', h3, h4⟩ := (told_at o h1).mp mv
        exact ⟨s', h3, h2.sil h4⟩
    have main : ∀ (n : Nat) (t : List Nat), t.length = n → ∀ h c, Rc b m sts t h c → ∃ s, sts[h]? = some s ∧ Rs b m t s c := by
      intro n
      induction n with
      | zero =>
        intro t ht
        cases List.eq_nil_of_length_eq_zero ht
        exact cl [] _ fun h c ⟨h1, h2⟩ => ⟨_, h1, by subst h2; exact .beg⟩
      | succ n ih =>
        intro t ht
        have hne : t ≠ [] := fun z => by rw [z] at ht; cases ht
        have e := List.dropLast_concat_getLast hne
        rw [← e, Rc.snoc]
        have hl : t.dropLast.length = n := by rw [List.length_dropLast]; omega
        refine cl _ _ fun to c ⟨h0, c0, d, h1, h2, h3⟩ => ?_
        obtain ⟨s, h4, h5⟩ := ih _ hl _ _ h1
        obtain ⟨s', h6, h7⟩ := (told_at o h4).mp h2
        subst h3
        exact ⟨s', h6, h5.rea h7⟩
    exact fun h c => main _ t rfl h c
  · rintro ⟨s, hs, r⟩
    have clr : ∀ {t : List Nat} {h to d c : Nat}, Rc b m sts t h c → Told b m sts none h to d → Rc b m sts t to (c + d) := by
      intro t h to d c z mv
      rcases List.eq_nil_or_concat t with rfl | ⟨t0, x, rfl⟩
      · exact Cl.step z mv
      · rw [List.concat_eq_append] at z ⊢
        rw [Rc.snoc] at z ⊢
        exact Cl.step z mv
    induction r generalizing h with
    | beg => exact .beg ⟨hs, rfl⟩
    | @sil t s s' c d r mv ih =>
      have q := rs_stok o.mo r
      obtain ⟨i, hi⟩ := o.idx q.1 q.2
      exact clr (ih i hi) ((told_at o hi).mpr ⟨_, hs, mv⟩)
    | @rea t s s' c d x r mv ih =>
      have q := rs_stok o.mo r
      obtain ⟨i, hi⟩ := o.idx q.1 q.2
      rw [Rc.snoc]
      exact .beg ⟨i, c, d, ih i hi, (told_at o hi).mpr ⟨_, hs, mv⟩, rfl⟩
/-- what may still become of a text -/
def Hope (b : Book) (m : Mach) (t : List Nat) (c : Nat) : Prop := ∃ s, Live m s.1 ∧ Rs b m t s c
noncomputable def hopL (b : Book) (m : Mach) (t : List Nat) : List Nat := if least (Hope b m t) = none then [] else b.1.filter fun x => decide (least (Hope b m (t ++ [x])) = least (Hope b m t))
def spRowHope (C : Addr) : Sp := fun vs H Q _ => ∃ (b : Book) (m : Mach) (sts : List Stg) (sf : Addr) (v1 v2 : V) (fl : List Bool) (row : CRow) (A : Nat → Nat → Prop), vs = [.ref sf, v1, v2] ∧ Wb C b m sts H sf ∧ Std b m sts ∧ rL rB H v1 fl ∧ fl.length = m.1 ∧ (∀ n, fl[n]? = some true ↔ Live m n) ∧
  rL (rO rN) H v2 row ∧ LRow sts.length A row ∧ ∀ H', Fe H H' → Q (oV (least fun c => ∃ h s, sts[h]? = some s ∧ Live m s.1 ∧ A h c)) H'
def spHopeCost : Sp := fun vs H Q _ => ∃ (b : Book) (m : Mach) (t : List Nat) (v1 v2 : V), vs = [v1, v2, .str ⟨t.toArray⟩] ∧ rBook H v1 b ∧ rMach H v2 m ∧ POk b m ∧ (∀ x ∈ t, x ∈ b.1) ∧ ∀ H', Fe H H' → Q (oV (least (Hope b m t))) H'
def spHopefulLetters : Sp := fun vs H Q _ => ∃ (b : Book) (m : Mach) (t : List Nat) (v1 v2 : V), vs = [v1, v2, .str ⟨t.toArray⟩] ∧ rBook H v1 b ∧ rMach H v2 m ∧ POk b m ∧ (∀ x ∈ t, x ∈ b.1) ∧ ∀ H', Fe H H' → Q (.str ⟨(hopL b m t).toArray⟩) H'
def somes (l : CRow) : List Nat := l.filterMap id
section
variable {P : Program} {w : World} {K : PySem.W.Frag} {g : Str → Option Value} {base : Heap}
theorem ok_least_of (T : Txt K g) : FnOk P w K g base CX0 1 T.d_least_of.f T.d_least_of.fd P_least_of spLeastOf := by
  refine T.d_least_of.F.ok sc_least_of (fun vs H Q E h => ?_) (fun cdv A outer s H vs Q E hr h => ?_)
  · obtain ⟨_, _, rfl, _⟩ := h
    rfl
  · obtain ⟨v, l, rfl, hl, hsz, kk⟩ := h
    have hu := hu_of hr
    refine ⟨_, (pss_cons (ps_setLc (i := 1) (own := [("number", 2)]) rfl sc_least_of.nd rfl rfl (sw_true rfl rfl rfl (by decide +kernel)) (ki_list (K := K) rfl (pv 0)) (blkOk_by (N := N_least_of) (sc := defScope s_least_of) (by decide +kernel)) (fun _ _ _ _ _ => by exact (pg_name (i := 2) sc_least_of.nd rfl (by first | exact Or.inl rfl | exact Or.inr rfl))) (fun _ _ _ _ _ => by exact pts_one (pt_cmpR op_notN (pv 2) pe_non (nomark _))) (fun _ _ _ _ _ => by exact (pv 2)))
    (pss_one (ps_ret (pe_ifExp (kt_truth (K := K) rfl (pv 1)) (pe_callB (kc_min (K := K) rfl rfl) (by rfl) T.z_min (by decide +kernel) (pa_cons (pv 1) pa_nil)) pe_non)))), ?_⟩
    obtain ⟨a, xs, rfl, ha, hxs⟩ := id hl
    have hxo := hxs.opts
    subst hxo
    have hsome : ∀ i (hi : i < l.length), somes (l.take (i + 1)) = somes (l.take i) ++ (match l[i] with | none => [] | some c => [c]) := fun i hi => by
      unfold somes
      rw [List.take_add_one, List.getElem?_eq_getElem hi, List.filterMap_append]
      refine congrArg (fun z => _ ++ z) ?_
      show List.filterMap id [l[i]] = _
      cases l[i] <;> rfl
    refine ⟨_, rfl, a, rfl, ⟨_, SqL.of ha⟩, fun F hF => lc_list (xs := l.map oV) (fun i H' => Cmp rN H F (somes (l.take i)) H') (Cmp.start hF) (fun i H' hi c => SqL.of (c.fe.k ha)) (fun i x H' hx c => ?_) (fun H1 c => ?_)⟩
    · have hi : i < l.length := by
        have := (List.getElem?_eq_some_iff.mp hx).1
        rwa [List.length_map] at this
      rw [List.getElem?_map, List.getElem?_eq_getElem hi] at hx
      cases hx
      rw [hsome i hi]
      have hfl : (somes (l.take i)).length < 1000000 := by
        have h1 := List.length_filterMap_le (id : Option Nat → Option Nat) (l.take i)
        have h2 := List.length_take_le i l
        unfold somes
        omega
      cases hc : l[i] with
      | none => exact ⟨rfl, _, rfl, rfl, _, rfl, iteF (by show Cmp rN H F (_ ++ []) H'; rw [List.append_nil]; exact c)⟩
      | some d =>
        refine ⟨rfl, _, rfl, rfl, _, rfl, iteT ⟨_, rfl, ?_⟩⟩
        exact c.add hfl (Fx.refl _ _) (show rN _ (vN d) d from rfl)
    · rw [List.length_map, List.take_length] at c
      obtain ⟨_, xs0, eF, hFx, hFl⟩ := c.rl
      cases eF
      have hfn := hFl.nats
      subst hfn
      refine ⟨_, rfl, _, .inl ⟨_, SqL.of hFx, rfl⟩, ?_⟩
      have hmem : ∀ c, c ∈ somes l ↔ some c ∈ l := fun c => by
        unfold somes
        rw [List.mem_filterMap]
        exact ⟨fun ⟨o, h1, h2⟩ => by cases o with | none => cases h2 | some d => cases h2; exact h1, fun h => ⟨_, h, rfl⟩⟩
      cases hs : somes l with
      | nil =>
        refine iteF ?_
        have := kk H1 c.fe
        rw [least_eq (o := none) (fun c hc => by rw [← hmem c, hs] at hc; exact nomatch hc)] at this
        exact this
      | cons d0 ds =>
        refine iteT ⟨_, rfl, F, (somes l).map (fun n : Nat => (n : Int)), rfl, by rw [List.map_map]; exact SqL.of hFx, by rw [hs]; exact Nat.succ_pos _, fun mn h1 h2 => ?_⟩
        obtain ⟨d, hd, rfl⟩ := List.mem_map.mp h1
        have := kk H1 c.fe
        rw [least_eq (o := some d) ⟨(hmem d).mp hd, fun e he => ?_⟩] at this
        · exact this
        · have := h2 e (List.mem_map.mpr ⟨e, (hmem e).mpr he, rfl⟩)
          omega
end
end Fm
namespace Fm
open PySem L2
def liv (fl : List Bool) (z : Option Nat × Stg) : Bool := fl[z.2.1]?.getD false
def hacc (fl : List Bool) (row : CRow) (sts : List Stg) (i : Nat) : CRow := (((row.zip sts).take i).filter (liv fl)).map (·.1)
theorem hacc_succ {fl : List Bool} {row : CRow} {sts : List Stg} {i : Nat} {o : Option Nat} {s : Stg} (h1 : row[i]? = some o) (h2 : sts[i]? = some s) : hacc fl row sts (i + 1) = hacc fl row sts i ++ (if liv fl (o, s) then [o] else []) := by
  unfold hacc
  have hz : (row.zip sts)[i]? = some (o, s) := List.getElem?_zip_eq_some.mpr ⟨h1, h2⟩
  rw [List.take_add_one, hz, List.filter_append, List.map_append]
  refine congrArg (fun z => _ ++ z) ?_
  show List.map _ (List.filter _ [(o, s)]) = _
  rw [List.filter_cons]
  split <;> rfl
theorem hacc_len {fl : List Bool} {row : CRow} {sts : List Stg} {i : Nat} : (hacc fl row sts i).length ≤ row.length := by
  unfold hacc
  rw [List.length_map]
  refine Nat.le_trans (List.length_filter_le _ _) ?_
  rw [List.length_take, List.length_zip]
  omega
theorem hacc_mem {fl : List Bool} {row : CRow} {sts : List Stg} {o : Option Nat} (hl : row.length = sts.length) : o ∈ hacc fl row sts row.length ↔ ∃ (h : Nat) (s : Stg), row[h]? = some o ∧ sts[h]? = some s ∧ fl[s.1]? = some true := by
  unfold hacc
  rw [List.take_of_length_le (by rw [List.length_zip]; omega), List.mem_map]
  constructor
  · rintro ⟨z, h1, rfl⟩
    obtain ⟨h2, h3⟩ := List.mem_filter.mp h1
    obtain ⟨h, hh⟩ := List.mem_iff_getElem?.mp h2
    obtain ⟨h4, h5⟩ := List.getElem?_zip_eq_some.mp hh
    refine ⟨h, z.2, h4, h5, ?_⟩
    unfold liv at h3
    cases q : fl[z.2.1]? with
    | none => rw [q] at h3; cases h3
    | some v => rw [q] at h3; exact congrArg some h3
  · rintro ⟨h, s, h1, h2, h3⟩
    refine ⟨(o, s), List.mem_filter.mpr ⟨List.mem_of_getElem? (List.getElem?_zip_eq_some.mpr ⟨h1, h2⟩ : (row.zip sts)[h]? = some (o, s)), ?_⟩, rfl⟩
    show fl[s.1]?.getD false = true
    rw [h3]; rfl
section
variable {P : Program} {w : World} {K : PySem.W.Frag} {g : Str → Option Value} {base : Heap}
theorem hope_rc {b : Book} {m : Mach} {sts : List Stg} (o : SOk b m sts) (t : List Nat) : (least fun c => ∃ (h : Nat) (s : Stg), sts[h]? = some s ∧ Live m s.1 ∧ Rc b m sts t h c) = least (Hope b m t) := by
  refine least_congr fun c => ⟨?_, ?_⟩
  · rintro ⟨h, s, h1, h2, h3⟩
    obtain ⟨s', h4, h5⟩ := (rc_rs o t h c).mp h3
    rw [h1] at h4; cases h4
    exact ⟨s, h2, h5⟩
  · rintro ⟨s, h1, h2⟩
    have q := rs_stok o.mo h2
    obtain ⟨i, hi⟩ := o.idx q.1 q.2
    exact ⟨i, s, hi, h1, (rc_rs o t i c).mpr ⟨s, hi, h2⟩⟩
end
end Fm
namespace Fm
open PySem L2
abbrev rStep : Rp (Nat × Nat × Nat) := rP3 rN rC rN
def stK (s : Nat × Nat × Nat) : List Key := [kN s.1, kS [s.2.1], kN s.2.2]
theorem step_key {H : Hp} {v : V} {s : Nat × Nat × Nat} (h : rStep H v s) : ∃ a, v = .ref a ∧ H a = some (.tup ((stK s).map kV)) := by
  obtain ⟨a, x, y, z, rfl, ha, rfl, rfl, rfl⟩ := h
  exact ⟨a, rfl, ha⟩
theorem step_back {H : Hp} {a : Addr} {s : Nat × Nat × Nat} (h : H a = some (.tup ((stK s).map kV))) : rStep H (.ref a) s := ⟨a, _, _, _, rfl, h, rfl, rfl, rfl⟩
/-- behind set(steps), sorted(..): what comes back -/
theorem steps_back {H H3 : Hp} {sts : List (Nat × Nat × Nat)} {ks L L' : TL} (hk : ∀ p ∈ ks, ∃ x, x ∈ sts ∧ p.2 = stK x ∧ H p.1 = some (.tup (p.2.map kV))) (hsub : ∀ p ∈ L, p ∈ ks) (hpm : L'.Perm L) (f : Fe H H3) :
    ∃ ys, Al rStep H3 (L'.map fun p => V.ref p.1) ys ∧ (∀ y ∈ ys, y ∈ sts) ∧ ys.length = L.length := by
  obtain ⟨ys, h1, h2, h3⟩ := tl_back (r := rStep) stK (fun a x h => step_back h) sts L' fun p hp => by
    obtain ⟨x, hx, e, h⟩ := hk p (hsub p (hpm.mem_iff.mp hp))
    exact ⟨x, hx, e, f.k h⟩
  refine ⟨ys, h1, h2, ?_⟩
  have := congrArg List.length h3
  rw [List.length_map, List.length_map, hpm.length_eq] at this
  exact this
def spMachine : Sp := fun vs H Q _ => ∃ (p g : Addr) (ls : List Nat) (n : Nat), vs = [.ref p, .str ⟨ls.toArray⟩, .int (n : Int)] ∧ Pl H p g ∧ ls ≠ [] ∧ ls.length ≤ 1000 ∧ 0 < n ∧ n ≤ 20 ∧
  ∀ (v : V) (m : Mach) (H' : Hp), Fx [p, g] H H' → Pl H' p g → rMach H' v m → MOk m → m.1 ≤ n → (∀ s ∈ m.2.2, s.2.1 ∈ ls) → m.2.2.length ≤ 10 → m.2.1.length ≤ 20 → Q v H'
section
variable {P : Program} {w : World} {K : PySem.W.Frag} {g : Str → Option Value} {base : Heap}
end
end Fm
namespace Fm
open PySem L2
abbrev Tab := List (List Nat)
abbrev Op := List Nat × List Nat × Nat × Tab
abbrev rOp : Rp Op := rP4 rS rS rN (rL (rL rN))
/-- an operation that reads r at the cost d, from q to p -/
def OpS (b : Book) (m : Mach) (r : List Nat) (d q p : Nat) : Prop := ∃ w, (r, w, d) ∈ alle b ∧ Lead (Em m) w q p
/-- whereto what is written leads -/
structure TabI (m : Mach) (w : List Nat) (k : Nat) (tab : Tab) : Prop where
  len : tab.length = k
  ok : ∀ (q : Nat) (row : List Nat), tab[q]? = some row → ∀ p, p ∈ row ↔ Lead (Em m) w q p
  sm : ∀ (q : Nat) (row : List Nat), tab[q]? = some row → row.length ≤ 100
structure OpsI (b : Book) (m : Mach) (k : Nat) (ops : List Op) : Prop where
  len : ops.length = k
  ok : ∀ (i : Nat) (op : Op), ops[i]? = some op → (alle b)[i]? = some (op.1, op.2.1, op.2.2.1) ∧ TabI m op.2.1 m.1 op.2.2.2
def OpsOk (b : Book) (m : Mach) (ops : List Op) : Prop := OpsI b m (alle b).length ops
def spOps : Sp := fun vs H Q _ => ∃ (b : Book) (m : Mach) (v1 v2 : V), vs = [v1, v2] ∧ rBook H v1 b ∧ rMach H v2 m ∧ POk b m ∧ m.2.2.length < 60 ∧ ∀ (v : V) (ops : List Op) (H' : Hp), Fe H H' → rL rOp H' v ops → OpsOk b m ops → Q v H'
def nxtH (sts : List (Nat × Nat × Nat)) (l : List Nat) (c : Nat) : List Nat := (sts.filter fun s => decide (s.1 ∈ l) && decide (s.2.1 = c)).map (·.2.2)
theorem nxtH_succ (sts : List (Nat × Nat × Nat)) (l : List Nat) (c i : Nat) (s : Nat × Nat × Nat) (h : sts[i]? = some s) : nxtH (sts.take (i + 1)) l c = nxtH (sts.take i) l c ++ (if s.1 ∈ l ∧ s.2.1 = c then [s.2.2] else []) := by
  unfold nxtH
  rw [List.take_add_one, h, List.filter_append, List.map_append]
  refine congrArg (fun z => List.map (fun x : Nat × Nat × Nat => x.2.2) (List.filter (fun s => decide (s.1 ∈ l) && decide (s.2.1 = c)) (List.take i sts)) ++ z) ?_
  show List.map _ (List.filter _ [s]) = _
  rw [List.filter_cons]
  by_cases q : s.1 ∈ l ∧ s.2.1 = c
  · rw [if_pos q, if_pos (by rw [decide_eq_true q.1, decide_eq_true q.2]; rfl)]; rfl
  · rw [if_neg q, if_neg]
    · rfl
    · rw [Bool.and_eq_true, decide_eq_true_eq, decide_eq_true_eq]; exact q
theorem nxtH_mem {sts : List (Nat × Nat × Nat)} {l : List Nat} {c p : Nat} : p ∈ nxtH sts l c ↔ ∃ q, q ∈ l ∧ (q, c, p) ∈ sts := by
  unfold nxtH
  rw [List.mem_map]
  constructor
  · rintro ⟨s, h1, rfl⟩
    obtain ⟨h2, h3⟩ := List.mem_filter.mp h1
    rw [Bool.and_eq_true, decide_eq_true_eq, decide_eq_true_eq] at h3
    exact ⟨s.1, h3.1, by rw [← h3.2]; exact h2⟩
  · rintro ⟨q, h1, h2⟩
    exact ⟨(q, c, p), List.mem_filter.mpr ⟨h2, by rw [Bool.and_eq_true, decide_eq_true_eq, decide_eq_true_eq]; exact ⟨h1, rfl⟩⟩, rfl⟩
theorem nxtH_len (sts : List (Nat × Nat × Nat)) (l : List Nat) (c : Nat) : (nxtH sts l c).length ≤ sts.length := by
  unfold nxtH
  rw [List.length_map]
  exact List.length_filter_le _ _
/-- a sorted set of naturals, back -/
theorem set_back {l : List Nat} {ns' : List Int} (hm : ∀ k : Int, k ∈ ns' ↔ decide (k ∈ l.map fun n : Nat => (n : Int)) = true) : ∃ l' : List Nat, ns' = l'.map (fun n : Nat => (n : Int)) ∧ ∀ p, p ∈ l' ↔ p ∈ l := by
  have h0 : ∀ x ∈ ns', 0 ≤ x := fun x hx => by
    have := (hm x).mp hx
    rw [decide_eq_true_eq] at this
    obtain ⟨n, _, rfl⟩ := List.mem_map.mp this
    omega
  have e := ints_back h0
  refine ⟨_, e, fun p => ?_⟩
  have h1 := hm (p : Int)
  rw [decide_eq_true_eq] at h1
  constructor
  · intro h
    have : (p : Int) ∈ ns' := by rw [e]; exact List.mem_map.mpr ⟨p, h, rfl⟩
    obtain ⟨n, hn, en⟩ := List.mem_map.mp (h1.mp this)
    have : n = p := by omega
    exact this ▸ hn
  · intro h
    have := h1.mpr (List.mem_map.mpr ⟨p, h, rfl⟩)
    exact List.mem_map.mpr ⟨(p : Int), this, by omega⟩
section
variable {P : Program} {w : World} {K : PySem.W.Frag} {g : Str → Option Value} {base : Heap}
theorem ok_law_ops (T : Txt K g) : FnOk P w K g base CX0 1 T.d_law_ops.f T.d_law_ops.fd P_law_ops spOps := by
  refine T.d_law_ops.F.ok sc_law_ops (fun vs H Q E h => ?_) (fun cdv A outer s H vs Q E hr h => ?_)
  · obtain ⟨_, _, _, _, rfl, _⟩ := h
    rfl
  · obtain ⟨b, m, v1, v2, rfl, hb, hm, pok, hfew, kk⟩ := h
    have hu := hu_of hr
    refine ⟨_, (pss_cons (ps_asg (pv 1) (kg_tup (K := K) 3 rfl rfl (pgs_cons (pg_name (i := 2) sc_law_ops.nd rfl (by first | exact Or.inl rfl | exact Or.inr rfl)) (pgs_cons (pg_name (i := 3) sc_law_ops.nd rfl (by first | exact Or.inl rfl | exact Or.inr rfl)) (pgs_cons (pg_name (i := 4) sc_law_ops.nd rfl (by first | exact Or.inl rfl | exact Or.inr rfl)) pgs_nil)))))
    (pss_cons (ps_set (i := 5) sc_law_ops.nd rfl (by first | exact Or.inl rfl | exact Or.inr rfl) (pe_lst pa_nil))
    (pss_cons (ps_for PassesOwn.never rfl (ki_list (K := K) rfl (pe_op op_cat (pe_callTy (kc_list (K := K) rfl) (by rfl) T.z_list (by decide +kernel) (pa_cons (pe_ix (kx_tup (K := K) rfl) (pv 0) pe_int (fun _ _ => rfl)) pa_nil)) (pe_lc (own := [("x", 12)]) rfl sc_law_ops.nd (pi_str (pe_ix (kx_tup (K := K) rfl) (pv 0) pe_int (fun _ _ => rfl))) (blkOk_by (N := N_law_ops) (sc := defScope s_law_ops) (by decide +kernel)) (fun _ _ _ _ _ => by exact (pg_name (i := 12) sc_law_ops.nd rfl (by first | exact Or.inl rfl | exact Or.inr rfl))) (fun _ _ _ _ _ => by exact pts_nil) (fun _ _ _ _ _ => by exact (pe_tup (pa_cons (pv 12) (pa_cons (pv 12) (pa_cons pe_int pa_nil)))))))) (kg_tup (K := K) 3 rfl rfl (pgs_cons (pg_name (i := 6) sc_law_ops.nd rfl (by first | exact Or.inl rfl | exact Or.inr rfl)) (pgs_cons (pg_name (i := 7) sc_law_ops.nd rfl (by first | exact Or.inl rfl | exact Or.inr rfl)) (pgs_cons (pg_name (i := 8) sc_law_ops.nd rfl (by first | exact Or.inl rfl | exact Or.inr rfl)) pgs_nil))))
      (pss_cons (ps_set (i := 9) sc_law_ops.nd rfl (by first | exact Or.inl rfl | exact Or.inr rfl) (pe_lst pa_nil))
      (pss_cons (ps_for PassesOwn.never rfl (pi_range1 rfl T.z_range (pa_cons (pv 2) pa_nil)) (pg_name (i := 10) sc_law_ops.nd rfl (by first | exact Or.inl rfl | exact Or.inr rfl))
        (pss_cons (ps_set (i := 11) sc_law_ops.nd rfl (by first | exact Or.inl rfl | exact Or.inr rfl) (pe_lst (pa_cons (pv 10) pa_nil)))
        (pss_cons (ps_for PassesOwn.never rfl (pi_str (pv 7)) (pg_name (i := 12) sc_law_ops.nd rfl (by first | exact Or.inl rfl | exact Or.inr rfl))
          (pss_one (ps_set (i := 11) sc_law_ops.nd rfl (by first | exact Or.inl rfl | exact Or.inr rfl) (pe_callB (kc_sortedSet (w := w) rfl rfl) (by rfl) T.z_sorted (by decide +kernel) (pa_cons (pe_callTy (kc_setI (K := K) (w := w) rfl rfl rfl) (by rfl) T.z_set (by decide +kernel) (pa_cons (pe_lc (own := [("step", 13)]) rfl sc_law_ops.nd (ki_tup (K := K) rfl (pv 4)) (blkOk_by (N := N_law_ops) (sc := defScope s_law_ops) (by decide +kernel)) (fun _ _ _ _ _ => by exact (pg_name (i := 13) sc_law_ops.nd rfl (by first | exact Or.inl rfl | exact Or.inr rfl))) (fun _ _ _ _ _ => by exact pts_one (PW.pt (pw_and (pt_cmpR (ko_in (K := K) rfl) (pe_ix (kx_tup (K := K) rfl) (pv 13) pe_int (fun _ _ => rfl)) (pv 11) (by rfl)) (pw_and1 (pt_cmpR op_eq (pe_ix (kx_tup (K := K) rfl) (pv 13) pe_int (fun _ _ => rfl)) (pv 12) (nomark _)))))) (fun _ _ _ _ _ => by exact (pe_ix (kx_tup (K := K) rfl) (pv 13) pe_int (fun _ _ => rfl)))) pa_nil)) pa_nil)))))
        (pss_one (ps_expr (ke_bm (K := K) rfl PySem.F.plainAttrs_list PySem.F.slot_list_append PySem.F.type_list_append mt_append (pv 9) (pa_cons (pv 11) pa_nil)))))))
      (pss_one (ps_expr (ke_bm (K := K) rfl PySem.F.plainAttrs_list PySem.F.slot_list_append PySem.F.type_list_append mt_append (pv 5) (pa_cons (pe_tup (pa_cons (pv 6) (pa_cons (pv 7) (pa_cons (pv 8) (pa_cons (pv 9) pa_nil))))) pa_nil)))))))
    (pss_one (ps_ret (pv 5)))))), ?_⟩
    obtain ⟨ma, vst, ven, vsp, rfl, hma, rfl, hen, hsp⟩ := id hm
    obtain ⟨sa, sxs, rfl, hsa, hsal⟩ := id hsp
    obtain ⟨bk, vl, ve, rfl, hbk, rfl, hed⟩ := id hb
    obtain ⟨c, eds, rfl, hc, heds⟩ := id hed
    refine ⟨_, rfl, ma, _, rfl, SqT.of hma, rfl, _, _, rfl, _, _, rfl, _, _, rfl, rfl, ?_⟩
    refine ⟨Nat.zero_le _, fun R hR => ?_⟩
    have gR := Fe.new (o := .lst []) hR
    refine ⟨_, rfl, bk, _, _, _, rfl, rfl, SqT.of (gR.k hbk), atI_nat (j := 1) rfl, c, _, rfl, .inr (SqT.of (gR.k hc)), fun L1 hL1 => ?_⟩
    have g1 := Fe.new (o := .lst eds) hL1
    have g01 := gR.trans g1
    refine ⟨_, rfl, bk, _, _, _, rfl, rfl, SqT.of (g01.k hbk), atI_nat (j := 0) rfl, _, rfl, fun L2 hL2 => lc_by b.1.length (fun i H' => Cmp (rP3 rS rS rN) _ L2 ((b.1.take i).map fun x => ([x], [x], 0)) H') (Cmp.start hL2) (fun i H' hi c => ?_) (fun H' c => ?_) ?_ ?_⟩
    · show i < (b.1.toArray).size
      rw [List.size_toArray]; exact hi
    · show (b.1.toArray).size ≤ b.1.length
      rw [List.size_toArray]; exact Nat.le_refl _
    · intro i y H' H5 hi c hyd
      obtain ⟨rfl, x, hx, rfl⟩ := hyd
      have hx' : b.1.toArray[i]? = some x := hx
      rw [List.getElem?_toArray] at hx'
      have hlb := pok.bk.fewL
      refine ⟨rfl, _, rfl, _, rfl, by show 3 ≤ sizeLine; decide, fun U hU => ?_⟩
      have e : (b.1.take (i + 1)).map (fun x => (([x], [x], 0) : List Nat × List Nat × Nat)) = (b.1.take i).map (fun x => ([x], [x], 0)) ++ [([x], [x], 0)] := by
        rw [List.take_add_one, hx', List.map_append]; rfl
      rw [e]
      exact c.add (x := ([x], [x], 0)) (y := .ref U) (by rw [List.length_map, List.length_take]; omega) (Fe.new hU) ⟨U, _, _, _, rfl, upd_same, rfl, rfl, rfl⟩
    · intro H2 c2
      rw [List.take_length] at c2
      obtain ⟨_, zs, eL, hL2v, alz⟩ := c2.rl
      cases eL
      have hzl := alz.len
      rw [List.length_map] at hzl
      have hlb := pok.bk.fewL
      have hel := pok.bk.few
      have hedl := heds.len
      have g02 := g01.trans c2.fe
      refine ⟨L1, L2, eds, zs, rfl, rfl, c2.fe.k upd_same, hL2v, by rw [sizeLine_eq]; omega, fun L hL => ?_⟩
      have gL := Fe.new (o := .lst (eds ++ zs)) hL
      have g0L := g02.trans gL
      have hLl : (upd H2 L (.lst (eds ++ zs))) L = some (.lst (eds ++ zs)) := upd_same
      have hRl : (upd H2 L (.lst (eds ++ zs))) R = some (.lst []) := gL.k (c2.fe.k (g1.k upd_same))
      have all : Al (rP3 rS rS rN) (upd H2 L (.lst (eds ++ zs))) (eds ++ zs) (alle b) := Al.app (Al.mo g0L heds) (Al.mo gL alz)
      have nLR : L ≠ R := (ne_of_none (c2.fe.k (g1.k upd_same)) hL).symm
      have hall : (eds ++ zs).length = (alle b).length := all.len
      have hal200 : (alle b).length ≤ 200 := by unfold alle; rw [List.length_append, List.length_map]; omega
      generalize upd H2 L (.lst (eds ++ zs)) = HL at g0L hLl hRl all
      refine ⟨L, rfl, ⟨_, SqL.of hLl⟩, for_lst (xs := eds ++ zs) (fun i σ' H' => ∃ (vs : List V) (ops : List Op) (o6 o7 o8 o9 o10 o11 o12 o13 : Option V), σ' = [some (.ref bk), some (.ref ma), some (vN m.1), some ven, some (.ref sa), some (.ref R), o6, o7, o8, o9, o10, o11, o12, o13] ∧ Fx [R] HL H' ∧ H' R = some (.lst vs) ∧
        Al (rP4 rS rS rN (rLa [R] (rLa [R] rN))) H' vs ops ∧ OpsI b m i ops) ⟨[], [], _, _, _, _, _, _, _, _, rfl, Fx.refl _ _, hRl, .nil, rfl, fun i op h => nomatch h⟩ (fun i σ' H' _ ⟨_, _, _, _, _, _, _, _, _, _, _, e, _⟩ => e.keep _ _ (fun z => nLR (List.mem_singleton.mp z)) hLl) ?_ ?_⟩
      · rintro i xv σ' H' hx ⟨vs, ops, o6, o7, o8, o9, o10, o11, o12, o13, rfl, f, hRv, al, oi⟩
        have hi : i < (alle b).length := by rw [← hall]; exact (List.getElem?_eq_some_iff.mp hx).1
        obtain ⟨e, he, hxr⟩ := all.get hx
        have hxr' := Mo.mo (r := rP3 rS rS rN) f hxr
        obtain ⟨u, x1, x2, x3, rfl, hu2, rfl, rfl, rfl⟩ := id hxr'
        refine ⟨u, _, rfl, SqT.of hu2, rfl, _, _, rfl, _, _, rfl, _, _, rfl, rfl, ?_⟩
        -- table = []
        refine ⟨Nat.zero_le _, fun T0 hT => ?_⟩
        have gT := Fe.new (o := .lst []) hT
        have nTR : T0 ≠ R := (ne_of_none hRv hT).symm
        have hTL : HL T0 = none := f.fr (fun z => nTR (List.mem_singleton.mp z)) hT
        have hsaL := g0L.k hsa
        refine ⟨_, rfl, _, rfl, by have := pok.few; omega, by have := pok.few; omega, ?_⟩
        have hcm : (m.1 : Int).toNat = m.1 := by omega
        rw [hcm]
        refine for_range (lo := 0) (n := m.1) (fun j σ' H2 => ∃ (ts : List V) (tab : Tab) (o10 o11 o12 o13 : Option V), σ' = [some (.ref bk), some (.ref ma), some (vN m.1), some ven, some (.ref sa), some (.ref R), some (.str ⟨e.1.toArray⟩), some (.str ⟨e.2.1.toArray⟩), some (vN e.2.2), some (.ref T0), o10, o11, o12, o13] ∧ Fx [R] HL H2 ∧ H2 R = some (.lst vs) ∧
          Al (rP4 rS rS rN (rLa [R, T0] (rLa [R, T0] rN))) H2 vs ops ∧ H2 T0 = some (.lst ts) ∧ Al (rLa [R, T0] rN) H2 ts tab ∧ TabI m e.2.1 j tab) ⟨[], [], _, _, _, _, rfl, f.trans gT.to, gT.k hRv, Al.ma (N := [R, T0]) gT.to (al.imp fun v x h => rP4.imp h fun v x h => rLa.more h hT fun v x h => rLa.more h hT fun _ _ h => h), upd_same, .nil, rfl, (fun q row h => nomatch h), fun q row h => nomatch h⟩ ?_ ?_
        · rintro j σ' H2 hj ⟨ts, tab, o10, o11, o12, o13, rfl, f2, hR2, al2, hT2, tal, ti⟩
          refine ⟨_, rfl, by show 1 ≤ sizeLine; decide, fun hd hhd => ?_⟩
          have gh := Fe.new (o := .lst [.int (0 + (j : Int))]) hhd
          have nhd : hd ∉ [R, T0] := fun z => by
            rcases List.mem_cons.mp z with rfl | z
            · rw [hR2] at hhd; cases hhd
            · rw [List.mem_singleton.mp z, hT2] at hhd; cases hhd
          have hE0 : H2 = H2 := rfl
          refine ⟨_, rfl, _, rfl, for_str (l := e.2.1) (fun k σ' H3 => ∃ (hd : Addr) (l : List Nat) (o12 o13 : Option V), σ' = [some (.ref bk), some (.ref ma), some (vN m.1), some ven, some (.ref sa), some (.ref R), some (.str ⟨e.1.toArray⟩), some (.str ⟨e.2.1.toArray⟩), some (vN e.2.2), some (.ref T0), some (.int (0 + (j : Int))), some (.ref hd), o12, o13] ∧
            Fe H2 H3 ∧ H3 hd = some (.lst (l.map vN)) ∧ hd ∉ [R, T0] ∧ l.length ≤ 100 ∧ ∀ p, p ∈ l ↔ Lead (Em m) (e.2.1.take k) j p) ⟨hd, [j], _, _, rfl, gh, by rw [upd_same, Int.zero_add]; rfl, nhd, by simp, fun p => ?_⟩ ?_ ?_⟩
          · show p ∈ [j] ↔ j = p
            rw [List.mem_singleton]
            exact eq_comm
          · rintro k x σ' H3 hx ⟨hd, l, o12, o13, rfl, g3, hl, nhd, _, hm3⟩
            have hsa3 : H3 sa = some (.tup sxs) := g3.k (f2.tups _ _ hsaL)
            have sal3 : Al rStep H3 sxs m.2.2 := Al.mo g3 (Al.mo f2 (Al.mo g0L hsal))
            have hsl := hsal.len
            refine ⟨_, rfl, sa, rfl, ⟨_, SqT.of hsa3⟩, fun D hD => lc_tup (xs := sxs) (fun i H' => Cmp rN H3 D (nxtH (m.2.2.take i) l x) H') (Cmp.start hD) (fun i H' hi c => SqT.of (c.fe.k hsa3)) (fun i xv H' hx c => ?_) (fun H4 c => ?_)⟩
            · obtain ⟨s, hs, hsr⟩ := sal3.get hx
              have hsr' := Mo.mo (r := rStep) c.fe hsr
              obtain ⟨u2, y1, y2, y3, rfl, hu3, rfl, rfl, rfl⟩ := id hsr'
              rw [nxtH_succ m.2.2 l x i s hs]
              have hnl : (nxtH (m.2.2.take i) l x).length < 1000000 := by
                have h1 := nxtH_len (m.2.2.take i) l x
                rw [List.length_take] at h1
                omega
              refine ⟨rfl, _, rfl, u2, _, _, _, rfl, rfl, SqT.of hu3, atI_nat (j := 0) rfl, _, rfl, hd, _, rfl, .inl (SqL.of (c.fe.k hl)), rfl, flat_nats l, _, rfl, ?_⟩
              have einv : (if false = true then !inV (vN s.1) (l.map vN) else inV (vN s.1) (l.map vN)) = decide (s.1 ∈ l) := inV_nats s.1 l
              rw [einv]
              by_cases q1 : s.1 ∈ l
              · rw [decide_eq_true q1]
                refine iteT ⟨_, rfl, u2, _, _, _, rfl, rfl, SqT.of hu3, atI_nat (j := 1) rfl, _, rfl, rfl, _, rfl, ?_⟩
                by_cases q2 : s.2.1 = x
                · rw [decide_eq_true (by rw [q2]), if_pos ⟨q1, q2⟩]
                  refine iteT ⟨_, rfl, u2, _, _, _, rfl, rfl, SqT.of hu3, atI_nat (j := 2) rfl, c.add hnl (Fx.refl _ _) rfl⟩
                · rw [decide_eq_false (fun z => q2 (by have := V.str.inj z; have := congrArg Str.cps this; simpa using this)), if_neg (fun z => q2 z.2), List.append_nil]
                  exact iteF c
              · rw [decide_eq_false q1, if_neg (fun z => q1 z.1), List.append_nil]
                exact iteF (iteF c)
            · rw [hsl, List.take_length] at c
              obtain ⟨_, ds, eD, hDv, ald⟩ := c.rl
              cases eD
              have hdn := ald.nats
              subst hdn
              have hnl := nxtH_len m.2.2 l x
              refine ⟨D, (nxtH m.2.2 l x).map (fun n : Nat => (n : Int)), rfl, by rw [List.map_map]; exact SqL.of hDv, by rw [List.length_map]; omega, fun sa2 n hsa2 hn2 => ?_⟩
              rw [List.length_map] at hn2
              have gs := Fe.new (o := SetO w sa2 (fun j => decide (j ∈ (nxtH m.2.2 l x).map (fun n : Nat => (n : Int)))) n) hsa2
              refine ⟨sa2, _, n, rfl, upd_same, by omega, fun ns' q _ hmem hlen' hq => ?_⟩
              obtain ⟨l', rfl, hl'⟩ := set_back hmem
              rw [List.length_map] at hlen'
              have gq := Fe.new (o := .lst ((l'.map fun n : Nat => (n : Int)).map V.int)) hq
              have gall := ((g3.trans c.fe).trans gs).trans gq
              refine ⟨q, l', _, _, rfl, gall, by rw [upd_same, List.map_map]; rfl, fun z => ?_, by omega, fun p => ?_⟩
              · have hR6 := ((g3.trans c.fe).trans gs).k hR2
                have hT6 := ((g3.trans c.fe).trans gs).k hT2
                rcases List.mem_cons.mp z with rfl | z
                · rw [hR6] at hq; cases hq
                · rw [List.mem_singleton.mp z, hT6] at hq; cases hq
              · rw [hl' p, nxtH_mem, List.take_add_one, hx]
                show _ ↔ Lead (Em m) (e.2.1.take k ++ [x]) j p
                rw [Lead.snoc]
                constructor
                · rintro ⟨q, h1, h2⟩
                  exact ⟨q, (hm3 q).mp h1, h2⟩
                · rintro ⟨q, h1, h2⟩
                  exact ⟨q, (hm3 q).mpr h1, h2⟩
          · rintro σ' H3 ⟨hd, l, o12, o13, rfl, g3, hl, nhd, hl100, hm3⟩
            rw [List.take_length] at hm3
            have htl := tal.len
            have h60 := pok.few
            have hT3 := g3.k hT2
            have til := ti.len
            refine ⟨_, rfl, .inl ⟨rfl, _, SqL.of hT3⟩, _, rfl, T0, ts, _, rfl, rfl, hT3, by rw [sizeLine_eq]; omega, ?_⟩
            have fT : Fx [R, T0] H3 (upd H3 T0 (.lst (ts ++ [.ref hd]))) := Fx.put hT3 (by simp) (fun _ z => nomatch z)
            have al3 := Al.ma (N := [R, T0]) fT (Al.ma (N := [R, T0]) g3.to al2)
            have tal3 := Al.ma (N := [R, T0]) fT (Al.ma (N := [R, T0]) g3.to tal)
            refine ⟨ts ++ [.ref hd], tab ++ [l], _, _, _, _, rfl, (f2.trans g3.to).mu hTL, by rw [upd_ne nTR.symm]; exact g3.k hR2, al3, upd_same, Al.snoc ⟨hd, _, rfl, ?_, Al.ofNats l, nhd⟩ tal3, by rw [List.length_append, List.length_singleton, til], fun q row hrow p => ?_, fun q row hrow => ?_⟩
            · rw [List.getElem?_append] at hrow
              split at hrow
              · exact ti.ok q row hrow p
              · rename_i hq
                have hq2 : q = j := by
                  have := (List.getElem?_eq_some_iff.mp hrow).1
                  simp at this
                  omega
                subst hq2
                rw [til, Nat.sub_self] at hrow
                cases hrow
                exact hm3 p
            · rw [List.getElem?_append] at hrow
              split at hrow
              · exact ti.sm q row hrow
              · have h1 := List.mem_of_getElem? hrow
                rw [List.mem_singleton.mp h1]; exact hl100
            · rw [upd_ne (fun z => nhd (by rw [z]; simp))]; exact hl
        · rintro σ' H2 ⟨ts, tab, o10, o11, o12, o13, rfl, f2, hR2, al2, hT2, tal, ti⟩
          have hol := al2.len
          have oil := oi.len
          refine ⟨_, rfl, .inl ⟨rfl, _, SqL.of hR2⟩, _, rfl, _, rfl, _, rfl, _, rfl, by show 4 ≤ sizeLine; decide, fun U hU => ?_⟩
          have gU := Fe.new (o := .tup [.str ⟨e.1.toArray⟩, .str ⟨e.2.1.toArray⟩, vN e.2.2, .ref T0]) hU
          refine ⟨R, vs, _, rfl, rfl, gU.k hR2, by rw [sizeLine_eq]; omega, ?_⟩
          have fR : Fx [R] (upd H2 U (.tup [.str ⟨e.1.toArray⟩, .str ⟨e.2.1.toArray⟩, vN e.2.2, .ref T0])) _ := Fx.put (o := .lst (vs ++ [.ref U])) (gU.k hR2) (by simp) (fun _ z => nomatch z)
          have tal2 : rLa [R] (rLa [R] rN) H2 (.ref T0) tab := ⟨T0, ts, rfl, hT2, tal.imp fun v x h => rLa.sub h (by simp) fun _ _ h => h, fun z => nTR (List.mem_singleton.mp z)⟩
          have al4 : Al (rP4 rS rS rN (rLa [R] (rLa [R] rN))) H2 vs ops := al2.imp fun v x h => rP4.imp h fun v x h => rLa.sub h (by simp) fun v x h => rLa.sub h (by simp) fun _ _ h => h
          have al5 := Al.ma (N := [R]) fR (Al.ma (N := [R]) gU.to al4)
          refine ⟨vs ++ [.ref U], ops ++ [(e.1, e.2.1, e.2.2, tab)], _, _, _, _, _, _, _, _, rfl, (f2.trans gU.to).trans fR, upd_same, Al.snoc ⟨U, _, _, _, _, rfl, fR.tups _ _ upd_same, rfl, rfl, rfl, Ma.ma (r := rLa [R] (rLa [R] rN)) fR (Ma.ma (N := [R]) (r := rLa [R] (rLa [R] rN)) gU.to tal2)⟩ al5, by rw [List.length_append, List.length_singleton, oil], fun k op hop => ?_⟩
          rw [List.getElem?_append] at hop
          split at hop
          · exact oi.ok k op hop
          · rename_i hk
            have hk2 : k = i := by
              have := (List.getElem?_eq_some_iff.mp hop).1
              simp at this
              omega
            subst hk2
            rw [oil, Nat.sub_self] at hop
            cases hop
            exact ⟨he, ti⟩
      · rintro σ' H' ⟨vs, ops, o6, o7, o8, o9, o10, o11, o12, o13, rfl, f, hRv, al, oi⟩
        rw [hall] at oi
        exact ⟨_, rfl, kk _ ops H' (Fx.of_fx g0L f hR) ⟨R, vs, rfl, hRv, al.imp fun v x h => rP4.imp h fun v x h => rLa.to h fun v x h => rLa.to h fun _ _ h => h⟩ oi⟩
end
end Fm
namespace Fm
open PySem L2
/-- least sums by whole operations, begun at the place bg -/
inductive Wh (b : Book) (m : Mach) (t : List Nat) (bg : Nat) : Nat → Nat → Nat → Prop
  | beg : Wh b m t bg bg 0 0
  | sil {pl q c d p : Nat} : Wh b m t bg pl q c → OpS b m [] d q p → Wh b m t bg pl p (c + d)
  | rd {pl q c d p : Nat} {r : List Nat} : Wh b m t bg pl q c → r ≠ [] → OpS b m r d q p → (t.drop pl).take r.length = r → Wh b m t bg (pl + r.length) p (c + d)
def SilS (b : Book) (m : Mach) (q p d : Nat) : Prop := OpS b m [] d q p
/-- what comes to a place from places before k -/
def Ar (b : Book) (m : Mach) (t : List Nat) (bg k pl q c : Nat) : Prop := (pl = bg ∧ q = 0 ∧ c = 0) ∨ ∃ (pl' q' c' : Nat) (r : List Nat) (d : Nat), pl' < k ∧ Wh b m t bg pl' q' c' ∧ r ≠ [] ∧ OpS b m r d q' q ∧ (t.drop pl').take r.length = r ∧ pl = pl' + r.length ∧ c = c' + d
theorem wh_cl {b : Book} {m : Mach} {t : List Nat} {bg pl q c : Nat} : Wh b m t bg pl q c ↔ Cl (SilS b m) (Ar b m t bg pl pl) q c := by
  constructor
  · intro h
    induction h with
    | beg => exact .beg (.inl ⟨rfl, rfl, rfl⟩)
    | sil _ s ih => exact .step ih s
    | @rd pl q c d p r h hr o ht _ =>
      have : 0 < r.length := List.length_pos_iff.mpr hr
      exact .beg (.inr ⟨pl, q, c, r, d, by omega, h, hr, o, ht, rfl, rfl⟩)
  · intro h
    induction h with
    | beg h =>
      rcases h with ⟨rfl, rfl, rfl⟩ | ⟨pl', q', c', r, d, _, hw, hr, o, ht, rfl, rfl⟩
      · exact .beg
      · exact .rd hw hr o ht
    | step _ s ih => exact .sil ih s
theorem wh_ge {b : Book} {m : Mach} {t : List Nat} {bg pl q c : Nat} (h : Wh b m t bg pl q c) : bg ≤ pl := by
  induction h with
  | beg => exact Nat.le_refl _
  | sil _ _ ih => exact ih
  | rd _ _ _ _ ih => omega
theorem ops_lt {b : Book} {m : Mach} (ok : MOk m) {r : List Nat} {d q p : Nat} (hq : q < m.1) (o : OpS b m r d q p) : p < m.1 := by
  obtain ⟨w, _, h⟩ := o
  exact lead_em_lt ok hq h
theorem wh_lt {b : Book} {m : Mach} (ok : MOk m) {t : List Nat} {bg pl q c : Nat} (h : Wh b m t bg pl q c) : q < m.1 := by
  induction h with
  | beg => exact ok.pos
  | sil _ o ih => exact ops_lt ok ih o
  | rd _ _ o _ ih => exact ops_lt ok ih o
/-- the operations' table and OpS -/
theorem OpsOk.to {b : Book} {m : Mach} {ops : List Op} (o : OpsOk b m ops) {i : Nat} {op : Op} (h : ops[i]? = some op) {q p : Nat} {row : List Nat} (hr : op.2.2.2[q]? = some row) (hp : p ∈ row) : OpS b m op.1 op.2.2.1 q p := by
  obtain ⟨h1, h2⟩ := o.ok i op h
  exact ⟨op.2.1, List.mem_of_getElem? h1, (h2.ok q row hr p).mp hp⟩
theorem OpsOk.from_ {b : Book} {m : Mach} {ops : List Op} (o : OpsOk b m ops) {r : List Nat} {d q p : Nat} (hq : q < m.1) (h : OpS b m r d q p) : ∃ (i : Nat) (op : Op) (row : List Nat), ops[i]? = some op ∧ op.1 = r ∧ op.2.2.1 = d ∧ op.2.2.2[q]? = some row ∧ p ∈ row := by
  obtain ⟨w, h1, h2⟩ := h
  obtain ⟨i, hi⟩ := List.mem_iff_getElem?.mp h1
  have hil : i < ops.length := by rw [o.len]; exact (List.getElem?_eq_some_iff.mp hi).1
  have he : ops[i]? = some ops[i] := List.getElem?_eq_getElem hil
  obtain ⟨h3, h4⟩ := o.ok i _ he
  rw [hi] at h3
  have e := Option.some.inj h3
  have hql : q < (ops[i]).2.2.2.length := by rw [h4.len]; exact hq
  have hr := List.getElem?_eq_getElem hql
  refine ⟨i, ops[i], _, he, ?_, ?_, hr, (h4.ok q _ hr p).mpr ?_⟩
  · exact (congrArg (fun z : List Nat × List Nat × Nat => z.1) e).symm
  · exact (congrArg (fun z : List Nat × List Nat × Nat => z.2.2) e).symm
  · have e2 : w = (ops[i]).2.1 := congrArg (fun z : List Nat × List Nat × Nat => z.2.1) e
    rw [← e2]; exact h2
theorem OpsOk.row {b : Book} {m : Mach} {ops : List Op} (o : OpsOk b m ops) {i : Nat} {op : Op} (h : ops[i]? = some op) {q : Nat} (hq : q < m.1) : ∃ row, op.2.2.2[q]? = some row := by
  obtain ⟨_, h2⟩ := o.ok i op h
  exact ⟨_, List.getElem?_eq_getElem (by rw [h2.len]; exact hq)⟩
/-! lists of lists, all alike at first -/
def MatK (x0 : List V) (H1 : Hp) (D : Addr) (i : Nat) (H' : Hp) : Prop := H1 D = none ∧ Fe H1 H' ∧ ∃ qs : List Addr, qs.length = i ∧ H' D = some (.lst (qs.map V.ref)) ∧ qs.Nodup ∧ D ∉ qs ∧ ∀ q ∈ qs, H1 q = none ∧ H' q = some (.lst x0)
theorem MatK.start {x0 : List V} {H1 : Hp} {D : Addr} (h : H1 D = none) : MatK x0 H1 D 0 (upd H1 D (.lst [])) := ⟨h, Fe.new h, [], rfl, upd_same, List.nodup_nil, (by simp), (by simp)⟩
theorem MatK.turn {x0 : List V} {H1 H' H2 : Hp} {D : Addr} {i : Nat} (m : MatK x0 H1 D i H') (hi : i < 1000000) (f : Fe H' H2) {p : Addr} (hp : H2 p = none) :
    ∃ acc, (upd H2 p (.lst x0)) D = some (.lst acc) ∧ acc.length < sizeLine ∧ MatK x0 H1 D (i + 1) (upd (upd H2 p (.lst x0)) D (.lst (acc ++ [.ref p]))) := by
  obtain ⟨h1, e, qs, hl, hD, nd, ne, hq⟩ := m
  have hD2 := f.k hD
  have nDp : D ≠ p := ne_of_none hD2 hp
  have np : p ∉ qs := fun z => by
    have := f.k (hq p z).2
    rw [hp] at this; cases this
  refine ⟨qs.map V.ref, by rw [upd_ne nDp]; exact hD2, by rw [List.length_map, sizeLine_eq]; omega, h1, ((e.trans f).trans (Fe.new hp)).mut h1, qs ++ [p], by rw [List.length_append, List.length_singleton, hl], by rw [upd_same, List.map_append]; rfl, ?_, ?_, ?_⟩
  · rw [List.nodup_append]
    refine ⟨nd, by simp, fun a ha b hb => ?_⟩
    rw [List.mem_singleton.mp hb]
    exact fun z => np (z ▸ ha)
  · rw [List.mem_append, List.mem_singleton]
    exact fun z => z.elim ne nDp
  · intro q z
    rcases List.mem_append.mp z with z | z
    · have a : q ≠ D := fun e => ne (e ▸ z)
      have b : q ≠ p := fun e => np (e ▸ z)
      exact ⟨(hq q z).1, by rw [upd_ne a, upd_ne b]; exact f.k (hq q z).2⟩
    · rw [List.mem_singleton.mp z]
      exact ⟨(e.trans f).free hp, by rw [upd_ne nDp.symm, upd_same]⟩
theorem MatK.mat {α : Type} {r : Rp α} {x0 : List V} {row : List α} {H0 H1 H' : Hp} {D : Addr} {n : Nat} (m : MatK x0 H1 D n H') (e : Fe H0 H1) (ha : Al r H' x0 row) : ∃ qs, Mat r H0 H' D qs (List.replicate n row) := by
  obtain ⟨h1, f, qs, hl, hD, nd, ne, hq⟩ := m
  refine ⟨qs, hD, nd, ne, fun q z => e.free (hq q z).1, e.free h1, by rw [List.length_replicate, hl], fun i q row' a b => ?_⟩
  rw [List.getElem?_replicate] at b
  split at b
  · cases b; exact ⟨x0, (hq q (List.mem_of_getElem? a)).2, ha⟩
  · cases b
/-- an item of a row is written -/
theorem Mat.set {α : Type} {r : Rp α} [Mo r] {H0 H : Hp} {p : Addr} {qs : List Addr} {rows : List (List α)} (M : Mat r H0 H p qs rows) {i j : Nat} {q : Addr} {row : List α} {xs : List V} {v : V} {x : α}
    (hq : qs[i]? = some q) (hr : rows[i]? = some row) (hx : H q = some (.lst xs)) (ha : Al r H xs row) (h : r H v x) : Mat r H0 (upd H q (.lst (xs.set j v))) p qs (rows.set i (row.set j x)) := by
  have hm := List.mem_of_getElem? hq
  have f : Fx [q] H (upd H q (.lst (xs.set j v))) := Fx.put hx (List.mem_singleton.mpr rfl) (fun _ z => nomatch z)
  have np : p ≠ q := fun e => M.ne (e ▸ hm)
  refine ⟨by rw [upd_ne np]; exact M.at_, M.nd, M.ne, M.new, M.newp, by rw [List.length_set]; exact M.len, fun k q' row' h1 h2 => ?_⟩
  by_cases e : i = k
  · subst e
    rw [hq] at h1; cases h1
    rw [List.getElem?_set, if_pos rfl, if_pos (List.getElem?_eq_some_iff.mp hr).1] at h2
    cases h2
    exact ⟨_, upd_same, Al.set (Mo.mo (r := r) f h) _ (Al.mo f ha)⟩
  · rw [List.getElem?_set, if_neg e] at h2
    have ne : q' ≠ q := fun z => e (nd_ix M.nd hq (z ▸ h1))
    obtain ⟨ys, a, b⟩ := M.row k q' row' h1 h2
    exact ⟨ys, by rw [upd_ne ne]; exact a, Al.mo f b⟩
def spAhead : Sp := fun vs H Q _ => ∃ (b : Book) (m : Mach) (ops : List Op) (t : List Nat) (bg : Nat) (v1 : V), vs = [v1, vN m.1, .str ⟨t.toArray⟩, vN bg] ∧ rL rOp H v1 ops ∧ OpsOk b m ops ∧ (∀ op ∈ ops, op.1.length ≤ 1000) ∧ MOk m ∧ m.1 ≤ 60 ∧ bg ≤ t.length ∧ t.length ≤ 100000 ∧
  ∀ (p : Addr) (H' : Hp) (qs : List Addr) (rows : List CRow), Fe H H' → Mat (rO rN) H H' p qs rows → rows.length = t.length + 1 → (∀ (k : Nat) (row : CRow), rows[k]? = some row → LRow m.1 (Wh b m t bg k) row) → Q (.ref p) H'
theorem cut_mid (l : List Nat) (i k : Nat) (h : i ≤ l.length) : cutS ⟨l.toArray⟩ (some (i : Int)) (some ((i : Int) + (k : Int))) = ⟨((l.drop i).take k).toArray⟩ := by
  unfold cutS
  rw [slen, show ((i : Int) + (k : Int)) = ((i + k : Nat) : Int) by omega, HT.sIx_nat, HT.sIx_nat]
  show (⟨((l.drop (min i l.length)).take (min (i + k) l.length - min i l.length)).toArray⟩ : Str) = _
  rw [Nat.min_eq_left h]
  congr 2
  by_cases q : i + k ≤ l.length
  · rw [Nat.min_eq_left q, Nat.add_sub_cancel_left]
  · rw [Nat.min_eq_right (by omega), List.take_of_length_le (by rw [List.length_drop]; exact Nat.le_refl _), List.take_of_length_le (by rw [List.length_drop]; omega)]
/-- what the operations before the i-th bring from the place pl to the place k -/
def AS (b : Book) (m : Mach) (t : List Nat) (bg pl : Nat) (row : CRow) (ops : List Op) (i k q c : Nat) : Prop := Ar b m t bg pl k q c ∨ ∃ (i2 : Nat) (op : Op) (q' c' : Nat) (tr : List Nat), i2 < i ∧ ops[i2]? = some op ∧ op.1 ≠ [] ∧ (t.drop pl).take op.1.length = op.1 ∧ k = pl + op.1.length ∧
  row[q']? = some (some c') ∧ op.2.2.2[q']? = some tr ∧ q ∈ tr ∧ c = c' + op.2.2.1
theorem as_ar {b : Book} {m : Mach} (mok : MOk m) {t : List Nat} {bg pl : Nat} {row row' : CRow} {ops : List Op} (oo : OpsOk b m ops) (hc : LRow m.1 (Wh b m t bg pl) row) {n k : Nat} (L : LRow n (AS b m t bg pl row ops ops.length k) row') : LRow n (Ar b m t bg (pl + 1) k) row' := by
  refine L.imp ?_ ?_
  · rintro q c ((h | ⟨pl', q', c', r, d, h1, h2⟩) | ⟨i2, op, q', c', tr, h1, h2, h3, h4, h5, h6, h7, h8, h9⟩)
    · exact .inl h
    · exact .inr ⟨pl', q', c', r, d, by omega, h2⟩
    · exact .inr ⟨pl, q', c', op.1, op.2.2.1, by omega, hc.snd q' c' h6, h3, oo.to h2 h7 h8, h4, h5, h9⟩
  · rintro q c (h | ⟨pl', q', c', r, d, h1, h2, h3, h4, h5, h6, h7⟩)
    · exact ⟨c, .inl (.inl h), Nat.le_refl _⟩
    · by_cases hp : pl' = pl
      · subst hp
        obtain ⟨c2, g1, g2⟩ := hc.low q' c' h2
        obtain ⟨i2, op, tr, k1, k2, k3, k4, k5⟩ := oo.from_ (wh_lt mok h2) h4
        subst k2 k3
        exact ⟨c2 + op.2.2.1, .inr ⟨i2, op, q', c2, tr, (List.getElem?_eq_some_iff.mp k1).1, k1, h3, h5, h6, g1, k4, k5, rfl⟩, by omega⟩
      · exact ⟨c, .inl (.inr ⟨pl', q', c', r, d, by omega, h2, h3, h4, h5, h6, h7⟩), Nat.le_refl _⟩
def DnO (ops : List Op) (i : Nat) (row : CRow) : Prop := ∀ (i' : Nat) (op : Op), i' < i → ops[i']? = some op → op.1 = [] → ∀ (q : Nat) (tr : List Nat) (p : Nat), op.2.2.2[q]? = some tr → p ∈ tr → Rx row q p op.2.2.1
def DnQ (op : Op) (j : Nat) (row : CRow) : Prop := op.1 = [] → ∀ (q : Nat) (tr : List Nat) (p : Nat), q < j → op.2.2.2[q]? = some tr → p ∈ tr → Rx row q p op.2.2.1
structure SwI (n : Nat) (S : Nat → Nat → Nat → Prop) (A : Nat → Nat → Prop) (M D ph : Nat) (row : CRow) (ag : Bool) : Prop where
  rl : Rlx n S A M D row
  le : Phi (M + n * D) row ≤ ph
  lt : ag = true → Phi (M + n * D) row < ph
section
variable {P : Program} {w : World} {K : PySem.W.Frag} {g : Str → Option Value} {base : Heap}
theorem ok_law_ahead (T : Txt K g) : FnOk P w K g base CX0 1 T.d_law_ahead.f T.d_law_ahead.fd P_law_ahead spAhead := by
  refine T.d_law_ahead.F.ok sc_law_ahead (fun vs H Q E h => ?_) (fun cdv A outer s H vs Q E hr h => ?_)
  · obtain ⟨_, _, _, _, _, _, rfl, _⟩ := h
    rfl
  · obtain ⟨b, m, ops, t, bg, v1, rfl, hops, oo, hshort, mok, h60, hbg, ht5, kk⟩ := h
    have hu := hu_of hr
    refine ⟨_, (pss_cons (ps_setLc (i := 4) (own := [("place", 5)]) rfl sc_law_ahead.nd rfl rfl (sw_true rfl rfl rfl (by decide +kernel)) (pi_range1 rfl T.z_range (pa_cons (pe_op op_add (pe_callB kc_lenS (by rfl) T.z_len PySem.boot_len (pa_cons (pv 2) pa_nil)) pe_int) pa_nil)) (blkOk_by (N := N_law_ahead) (sc := defScope s_law_ahead) (by decide +kernel)) (fun _ _ _ _ _ => by exact (pg_name (i := 5) sc_law_ahead.nd rfl (by first | exact Or.inl rfl | exact Or.inr rfl))) (fun _ _ _ _ _ => by exact pts_nil) (fun _ _ _ _ _ => by exact (pe_op op_rep (pe_lst (pa_cons pe_non pa_nil)) (pv 1))))
    (pss_cons (ps_asg pe_int (pg_sub (pe_ix (kx_list (K := K) rfl) (pv 4) (pv 3) (fun _ _ => rfl)) pe_int set_list))
    (pss_cons (ps_for PassesOwn.never rfl (pi_range2 rfl T.z_range (pa_cons (pv 3) (pa_cons (pe_op op_add (pe_callB kc_lenS (by rfl) T.z_len PySem.boot_len (pa_cons (pv 2) pa_nil)) pe_int) pa_nil))) (pg_name (i := 5) sc_law_ahead.nd rfl (by first | exact Or.inl rfl | exact Or.inr rfl))
      (pss_cons (ps_set (i := 6) sc_law_ahead.nd rfl (by first | exact Or.inl rfl | exact Or.inr rfl) (pe_ix (kx_list (K := K) rfl) (pv 4) (pv 5) (fun _ _ => rfl)))
      (pss_cons (ps_set (i := 7) sc_law_ahead.nd rfl (by first | exact Or.inl rfl | exact Or.inr rfl) pe_bl)
      (pss_cons (ps_while PassesOwn.never (pt_val (pv 7))
        (pss_cons (ps_set (i := 7) sc_law_ahead.nd rfl (by first | exact Or.inl rfl | exact Or.inr rfl) pe_bl)
        (pss_one (ps_for PassesOwn.never rfl (ki_list (K := K) rfl (pv 0)) (kg_tup (K := K) 4 rfl rfl (pgs_cons (pg_name (i := 8) sc_law_ahead.nd rfl (by first | exact Or.inl rfl | exact Or.inr rfl)) (pgs_cons (pg_name (i := 9) sc_law_ahead.nd rfl (by first | exact Or.inl rfl | exact Or.inr rfl)) (pgs_cons (pg_name (i := 10) sc_law_ahead.nd rfl (by first | exact Or.inl rfl | exact Or.inr rfl)) (pgs_cons (pg_name (i := 11) sc_law_ahead.nd rfl (by first | exact Or.inl rfl | exact Or.inr rfl)) pgs_nil)))))
          (pss_one (ps_for PassesOwn.never rfl (pi_range1 rfl T.z_range (pa_cons (pv 1) pa_nil)) (pg_name (i := 12) sc_law_ahead.nd rfl (by first | exact Or.inl rfl | exact Or.inr rfl))
            (pss_one (ps_if (PW.pt (pw_and (pt_cmpR op_eq (pv 8) pe_str (nomark _)) (pw_and1 (pt_cmpR op_notN (pe_ix (kx_list (K := K) rfl) (pv 6) (pv 12) (fun _ _ => rfl)) pe_non (nomark _)))))
              (pss_one (ps_for PassesOwn.never rfl (ki_list (K := K) rfl (pe_ix (kx_list (K := K) rfl) (pv 11) (pv 12) (fun _ _ => rfl))) (pg_name (i := 13) sc_law_ahead.nd rfl (by first | exact Or.inl rfl | exact Or.inr rfl))
                (pss_one (ps_if (PW.pt (pw_or (pt_cmpR op_isN (pe_ix (kx_list (K := K) rfl) (pv 6) (pv 13) (fun _ _ => rfl)) pe_non (nomark _)) (pw_or1 (pt_cmpR op_gt (pe_ix (kx_list (K := K) rfl) (pv 6) (pv 13) (fun _ _ => rfl)) (pe_op op_add (pe_ix (kx_list (K := K) rfl) (pv 6) (pv 12) (fun _ _ => rfl)) (pv 10)) (nomark _)))))
                  (pss_cons (ps_asg (pe_op op_add (pe_ix (kx_list (K := K) rfl) (pv 6) (pv 12) (fun _ _ => rfl)) (pv 10)) (pg_sub (pv 6) (pv 13) set_list))
                  (pss_one (ps_set (i := 7) sc_law_ahead.nd rfl (by first | exact Or.inl rfl | exact Or.inr rfl) pe_bl)))
                  pss_nil))))
              pss_nil))))))))
      (pss_one (ps_for PassesOwn.never rfl (ki_list (K := K) rfl (pv 0)) (kg_tup (K := K) 4 rfl rfl (pgs_cons (pg_name (i := 8) sc_law_ahead.nd rfl (by first | exact Or.inl rfl | exact Or.inr rfl)) (pgs_cons (pg_name (i := 9) sc_law_ahead.nd rfl (by first | exact Or.inl rfl | exact Or.inr rfl)) (pgs_cons (pg_name (i := 10) sc_law_ahead.nd rfl (by first | exact Or.inl rfl | exact Or.inr rfl)) (pgs_cons (pg_name (i := 11) sc_law_ahead.nd rfl (by first | exact Or.inl rfl | exact Or.inr rfl)) pgs_nil)))))
        (pss_one (ps_if (PW.pt (pw_and (pt_cmpR op_ne (pv 8) pe_str (nomark _)) (pw_and1 (pt_cmpR op_eq (pe_slice sl_str (pv 2) (po_some (pv 5)) (po_some (pe_op op_add (pv 5) (pe_callB kc_lenS (by rfl) T.z_len PySem.boot_len (pa_cons (pv 8) pa_nil))))) (pv 8) (nomark _)))))
          (pss_cons (ps_set (i := 14) sc_law_ahead.nd rfl (by first | exact Or.inl rfl | exact Or.inr rfl) (pe_ix (kx_list (K := K) rfl) (pv 4) (pe_op op_add (pv 5) (pe_callB kc_lenS (by rfl) T.z_len PySem.boot_len (pa_cons (pv 8) pa_nil))) (fun _ _ => rfl)))
          (pss_one (ps_for PassesOwn.never rfl (pi_range1 rfl T.z_range (pa_cons (pv 1) pa_nil)) (pg_name (i := 12) sc_law_ahead.nd rfl (by first | exact Or.inl rfl | exact Or.inr rfl))
            (pss_one (ps_if (pt_cmpR op_notN (pe_ix (kx_list (K := K) rfl) (pv 6) (pv 12) (fun _ _ => rfl)) pe_non (nomark _))
              (pss_one (ps_for PassesOwn.never rfl (ki_list (K := K) rfl (pe_ix (kx_list (K := K) rfl) (pv 11) (pv 12) (fun _ _ => rfl))) (pg_name (i := 13) sc_law_ahead.nd rfl (by first | exact Or.inl rfl | exact Or.inr rfl))
                (pss_one (ps_if (PW.pt (pw_or (pt_cmpR op_isN (pe_ix (kx_list (K := K) rfl) (pv 14) (pv 13) (fun _ _ => rfl)) pe_non (nomark _)) (pw_or1 (pt_cmpR op_gt (pe_ix (kx_list (K := K) rfl) (pv 14) (pv 13) (fun _ _ => rfl)) (pe_op op_add (pe_ix (kx_list (K := K) rfl) (pv 6) (pv 12) (fun _ _ => rfl)) (pv 10)) (nomark _)))))
                  (pss_one (ps_asg (pe_op op_add (pe_ix (kx_list (K := K) rfl) (pv 6) (pv 12) (fun _ _ => rfl)) (pv 10)) (pg_sub (pv 14) (pv 13) set_list)))
                  pss_nil))))
              pss_nil)))))
          pss_nil))))))))
    (pss_one (ps_ret (pv 4)))))), ?_⟩
    obtain ⟨oa, oxs, rfl, hoa, hol⟩ := id hops
    refine ⟨_, rfl, _, rfl, by rw [slen, sizeLine_eq]; omega, _, _, rfl, rfl, _, rfl, by rw [slen]; omega, by rw [slen]; omega, fun D hD => ?_⟩
    have hcn : (((⟨t.toArray⟩ : Str).length : Int) + 1).toNat = t.length + 1 := by rw [slen]; omega
    rw [hcn]
    refine lc_range (MatK ((List.replicate m.1 none : CRow).map oV) H D) (MatK.start hD) ?_ ?_
    · intro i H' hi mc
      refine ⟨rfl, by show 1 ≤ sizeLine; decide, fun p1 hp1 => ?_⟩
      have g1 := Fe.new (o := .lst [V.non]) hp1
      refine ⟨_, rfl, p1, _, _, rfl, rfl, upd_same, by omega, by omega, by rw [sizeLine_eq]; simp only [List.length_singleton]; omega, fun p2 hp2 => ?_⟩
      rw [rep_oV, Int.toNat_natCast]
      exact mc.turn (by omega) g1 hp2
    · intro H1 mc
      obtain ⟨qs, M0⟩ := mc.mat (r := rO rN) (Fx.refl [] H) (Al.ofOpts _)
      have e1 := mc.2.1
      have hbr : (List.replicate (t.length + 1) (List.replicate m.1 none : CRow))[bg]? = some (List.replicate m.1 none) := by rw [List.getElem?_replicate, if_pos (by omega)]
      obtain ⟨q0, xs0, hq0, hq0m, hq0x, hq0a⟩ := M0.get hbr
      have hx0 := hq0a.opts
      subst hx0
      refine ⟨_, rfl, _, rfl, D, _, _, .ref q0, rfl, rfl, SqL.of M0.at_, atI_nat (by rw [List.getElem?_map, hq0]; rfl), q0, _, _, 0, rfl, rfl, hq0x, ?_, ?_⟩
      · have : ixN ((List.replicate m.1 none : CRow).map oV).length ((0 : Nat) : Int) = some 0 := ixn (by rw [List.length_map, List.length_replicate]; exact mok.pos)
        exact this
      have M1 := M0.set (j := 0) (v := .int 0) (x := some 0) hq0 hbr hq0x hq0a (by show V.int 0 = V.int _; rfl)
      have e2 := e1.mut (o := .lst (((List.replicate m.1 none : CRow).map oV).set 0 (.int 0))) (M0.new q0 hq0m)
      generalize upd H1 q0 (.lst (((List.replicate m.1 none : CRow).map oV).set 0 (.int 0))) = H2 at M1 e2
      have LR0 : ∀ (k : Nat) (row : CRow), ((List.replicate (t.length + 1) (List.replicate m.1 none : CRow)).set bg ((List.replicate m.1 none).set 0 (some 0)))[k]? = some row → LRow m.1 (Ar b m t bg bg k) row := by
        intro k row hrow
        rw [List.getElem?_set] at hrow
        by_cases hk : bg = k
        · subst hk
          rw [if_pos rfl, if_pos (by rw [List.length_replicate]; omega)] at hrow
          cases hrow
          refine ((LRow.nothing m.1).put (to := 0) (v := 0) (o := none) (by rw [List.getElem?_replicate, if_pos mok.pos]) bet_none).imp (fun q c z => ?_) (fun q c z => ⟨c, ?_, Nat.le_refl _⟩)
          · rcases z with z | ⟨rfl, rfl⟩
            · exact z.elim
            · exact .inl ⟨rfl, rfl, rfl⟩
          · rcases z with ⟨_, rfl, rfl⟩ | ⟨pl', _, _, _, _, h1, h2, _⟩
            · exact .inr ⟨rfl, rfl⟩
            · exact absurd (wh_ge h2) (by omega)
        · rw [if_neg hk, List.getElem?_replicate] at hrow
          split at hrow
          · cases hrow
            refine (LRow.nothing m.1).imp (fun _ _ z => z.elim) (fun q c z => ?_)
            rcases z with ⟨rfl, _, _⟩ | ⟨pl', _, _, _, _, h1, h2, _⟩
            · exact absurd rfl hk
            · exact absurd (wh_ge h2) (by omega)
          · cases hrow
      refine ⟨_, rfl, _, rfl, _, rfl, by rw [slen, sizeLine_eq]; omega, _, _, rfl, rfl, (bg : Int), ((t.length : Int) + 1), by rw [slen], ⟨by omega, by omega, by omega, by omega⟩, ?_⟩
      have hc2 : ((t.length : Int) + 1 - (bg : Int)).toNat = t.length + 1 - bg := by omega
      rw [hc2]
      refine for_range (lo := (bg : Int)) (n := t.length + 1 - bg) (fun i σ' H' => ∃ (rows : List CRow) (o5 o6 o7 o8 o9 o10 o11 o12 o13 o14 : Option V), σ' = [some (.ref oa), some (vN m.1), some (.str ⟨t.toArray⟩), some (vN bg), some (.ref D), o5, o6, o7, o8, o9, o10, o11, o12, o13, o14] ∧ Fe H H' ∧ Mat (rO rN) H H' D qs rows ∧ rows.length = t.length + 1 ∧
        ∀ (k : Nat) (row : CRow), rows[k]? = some row → LRow m.1 (if k < bg + i then Wh b m t bg k else Ar b m t bg (bg + i) k) row) ⟨_, _, _, _, _, _, _, _, _, _, _, rfl, e2, M1, by rw [List.length_set, List.length_replicate], fun k row hrow => ?_⟩ ?_ ?_
      · have := LR0 k row hrow
        split
        · rename_i hk
          refine this.imp (fun q c z => ?_) (fun q c z => absurd (wh_ge z) (by omega))
          rcases z with ⟨rfl, _, _⟩ | ⟨pl', _, _, _, _, h1, h2, _⟩
          · omega
          · exact absurd (wh_ge h2) (by omega)
        · exact this
      · rintro i σ' H' hi ⟨rows, o5, o6, o7, o8, o9, o10, o11, o12, o13, o14, rfl, e, Mt, hl, hrows⟩
        have epl : ((bg : Int) + (i : Int)) = ((bg + i : Nat) : Int) := by omega
        have hpl : bg + i < rows.length := by omega
        generalize hplq : bg + i = pl at epl hpl hrows
        obtain ⟨row, hrow⟩ : ∃ row, rows[pl]? = some row := ⟨_, List.getElem?_eq_getElem hpl⟩
        have hA := hrows pl row hrow
        rw [if_neg (Nat.lt_irrefl _)] at hA
        obtain ⟨qk, xs, hqk, hqm, hqx, hqa⟩ := Mt.get hrow
        have hxo := hqa.opts
        subst hxo
        have nqk : H qk = none := Mt.new qk hqm
        refine ⟨_, rfl, _, rfl, D, _, _, .ref qk, rfl, rfl, SqL.of Mt.at_, by rw [epl]; exact atI_nat (by rw [List.getElem?_map, hqk]; rfl), ?_⟩
        obtain ⟨Mx, hMx⟩ := row_max row
        obtain ⟨Dx, hDx⟩ := list_max ((alle b).map fun e => e.2.2)
        have hDS : ∀ q p d, SilS b m q p d → d ≤ Dx := fun q p d ⟨w, h1, _⟩ => hDx _ (List.mem_map.mpr ⟨_, h1, rfl⟩)
        -- while again
        refine ⟨fun k σ' H' => ∃ (row' : CRow) (ag : Bool) (o8 o9 o10 o11 o12 o13 : Option V), σ' = [some (.ref oa), some (vN m.1), some (.str ⟨t.toArray⟩), some (vN bg), some (.ref D), some (.int ((bg : Int) + (i : Int))), some (.ref qk), some (.bl ag), o8, o9, o10, o11, o12, o13, o14] ∧ Fe H H' ∧ Mat (rO rN) H H' D qs (rows.set pl row') ∧
          Rlx m.1 (SilS b m) (Ar b m t bg pl pl) Mx Dx row' ∧ (ag = false → DnO ops ops.length row') ∧ k = 2 * Phi (Mx + m.1 * Dx) row' + (if ag then 1 else 0), ⟨_, row, true, _, _, _, _, _, _, rfl, e, ?_, .start hA hMx, (fun z => nomatch z), rfl⟩, ?_⟩
        · have : rows.set pl row = rows := by
            apply List.ext_getElem?
            intro k
            rw [List.getElem?_set]
            by_cases z : pl = k
            · subst z; rw [if_pos rfl, if_pos hpl, hrow]
            · rw [if_neg z]
          rw [this]; exact Mt
        rintro kq σ' H2 ⟨row1, ag, o8, o9, o10, o11, o12, o13, rfl, e2, M2, R2, hdn, rfl⟩
        refine ⟨_, rfl, ag, rfl, ?_⟩
        cases ag with
        | true =>
          refine iteT ⟨_, fun σ' H' h => h, ?_⟩
          -- one sweep
          refine ⟨_, rfl, oa, rfl, ⟨_, SqL.of (e2.k hoa)⟩, for_lst (xs := oxs) (fun i' σ' H' => ∃ (row' : CRow) (ag : Bool) (o8 o9 o10 o11 o12 o13 : Option V), σ' = [some (.ref oa), some (vN m.1), some (.str ⟨t.toArray⟩), some (vN bg), some (.ref D), some (.int ((bg : Int) + (i : Int))), some (.ref qk), some (.bl ag), o8, o9, o10, o11, o12, o13, o14] ∧ Fe H H' ∧ Mat (rO rN) H H' D qs (rows.set pl row') ∧
            SwI m.1 (SilS b m) (Ar b m t bg pl pl) Mx Dx (Phi (Mx + m.1 * Dx) row1) row' ag ∧ (ag = false → DnO ops i' row')) ⟨row1, false, _, _, _, _, _, _, rfl, e2, M2, ⟨R2, Nat.le_refl _, fun z => nomatch z⟩, fun _ i' op h => absurd h (by omega)⟩ (fun i' σ' H' _ ⟨_, _, _, _, _, _, _, _, _, e, _⟩ => e.k hoa) ?_ ?_⟩
          · clear hdn R2 M2 e2
            rintro i' xv σ' H3 hx ⟨row3, ag, o8, o9, o10, o11, o12, o13, rfl, e3, M3, sw3, hd3⟩
            obtain ⟨op, hop, hxr0⟩ := hol.get hx
            obtain ⟨ua, x1, x2, x3, x4, rfl, hua, rfl, rfl, rfl, htab⟩ := id hxr0
            obtain ⟨ta, txs, rfl, hta, htal⟩ := id (show rL (rL rN) H x4 op.2.2.2 from htab)
            refine ⟨ua, _, rfl, SqT.of (e3.k hua), rfl, _, _, rfl, _, _, rfl, _, _, rfl, _, _, rfl, rfl, ?_⟩
            refine ⟨_, rfl, _, rfl, by omega, by omega, ?_⟩
            have hcm : (m.1 : Int).toNat = m.1 := by omega
            rw [hcm]
            refine for_range (lo := 0) (n := m.1) (fun j σ' H' => ∃ (row' : CRow) (ag : Bool) (o12 o13 : Option V), σ' = [some (.ref oa), some (vN m.1), some (.str ⟨t.toArray⟩), some (vN bg), some (.ref D), some (.int ((bg : Int) + (i : Int))), some (.ref qk), some (.bl ag), some (.str ⟨op.1.toArray⟩), some (.str ⟨op.2.1.toArray⟩), some (vN op.2.2.1), some (.ref ta), o12, o13, o14] ∧ Fe H H' ∧ Mat (rO rN) H H' D qs (rows.set pl row') ∧
              SwI m.1 (SilS b m) (Ar b m t bg pl pl) Mx Dx (Phi (Mx + m.1 * Dx) row1) row' ag ∧ (ag = false → DnO ops i' row' ∧ DnQ op j row')) ⟨row3, ag, _, _, rfl, e3, M3, sw3, fun z => ⟨hd3 z, fun _ q tr p h => absurd h (by omega)⟩⟩ ?_ ?_
            · clear hd3 sw3 M3 htab
              rintro j σ' H4 hj ⟨row4, ag, o12, o13, rfl, e4, M4, sw4, hd4⟩
              have hr4 : (rows.set pl row4)[pl]? = some row4 := by rw [List.getElem?_set, if_pos rfl, if_pos hpl]
              obtain ⟨q4, xs4, hq4, _, hx4, ha4⟩ := M4.get hr4
              have eq4 : q4 = qk := Option.some.inj (hq4.symm.trans hqk)
              subst eq4
              have hxo4 := ha4.opts
              subst hxo4
              have hl4 := sw4.rl.len
              obtain ⟨oc, hoc⟩ : ∃ oc, row4[j]? = some oc := ⟨_, List.getElem?_eq_getElem (by rw [hl4]; exact hj)⟩
              refine ⟨_, rfl, rfl, _, rfl, ?_⟩
              rw [dec_str_nil]
              by_cases hrd : op.1 = []
              · rw [decide_eq_true hrd]
                refine iteT ⟨_, rfl, _, rfl, q4, _, _, _, rfl, rfl, SqL.of hx4, by rw [Int.zero_add]; exact atI_nat (at_oV hoc), rfl, _, rfl, ?_⟩
                cases oc with
                | none =>
                  refine iteF ⟨row4, ag, _, _, rfl, e4, M4, sw4, fun z => ⟨(hd4 z).1, fun h0 q tr p hq htr hp => ?_⟩⟩
                  by_cases hqj : q = j
                  · subst hqj
                    intro c hc
                    rw [hoc] at hc; cases hc
                  · exact (hd4 z).2 h0 q tr p (by omega) htr hp
                | some c =>
                  refine iteT ?_
                  obtain ⟨trow, htrow⟩ := oo.row hop hj
                  obtain ⟨tv, htv, htr⟩ := htal.at htrow
                  obtain ⟨tra, trx, rfl, htra, htral⟩ := id htr
                  have htn := htral.nats
                  subst htn
                  have hmov : ∀ p, p ∈ trow → SilS b m j p op.2.2.1 := fun p hp => by
                    have := oo.to hop htrow hp
                    rw [hrd] at this
                    exact this
                  refine ⟨_, rfl, _, rfl, ta, _, _, .ref tra, rfl, rfl, SqL.of (e4.k hta), by rw [Int.zero_add]; exact atI_nat htv, tra, rfl, ⟨_, SqL.of (e4.k htra)⟩, for_lst (xs := trow.map vN) (fun k σ' H' => ∃ (row' : CRow) (ag : Bool) (o13 : Option V), σ' = [some (.ref oa), some (vN m.1), some (.str ⟨t.toArray⟩), some (vN bg), some (.ref D), some (.int ((bg : Int) + (i : Int))), some (.ref q4), some (.bl ag), some (.str ⟨op.1.toArray⟩), some (.str ⟨op.2.1.toArray⟩), some (vN op.2.2.1), some (.ref ta), some (.int (0 + (j : Int))), o13, o14] ∧ Fe H H' ∧ Mat (rO rN) H H' D qs (rows.set pl row') ∧
                    SwI m.1 (SilS b m) (Ar b m t bg pl pl) Mx Dx (Phi (Mx + m.1 * Dx) row1) row' ag ∧ row'[j]? = some (some c) ∧ (ag = false → DnO ops i' row' ∧ DnQ op j row' ∧ ∀ p, p ∈ trow.take k → Rx row' j p op.2.2.1)) ⟨row4, ag, _, rfl, e4, M4, sw4, hoc, fun z => ⟨(hd4 z).1, (hd4 z).2, fun p hp => nomatch hp⟩⟩ (fun k σ' H' _ ⟨_, _, _, _, e, _⟩ => e.k htra) ?_ ?_⟩
                  · clear hd4 sw4 M4 hx4 hr4 hl4 hoc ha4
                    rintro k yv σ' H5 hy ⟨row5, ag, o13, rfl, e5, M5, sw5, hoc, hd5⟩
                    rw [List.getElem?_map] at hy
                    obtain ⟨p, hp, rfl⟩ : ∃ p, trow[k]? = some p ∧ yv = vN p := by
                      cases z : trow[k]? with
                      | none => rw [z] at hy; cases hy
                      | some q => rw [z] at hy; exact ⟨q, rfl, (Option.some.inj hy).symm⟩
                    have hpm := hmov p (List.mem_of_getElem? hp)
                    have hpn : p < m.1 := ops_lt mok hj hpm
                    have hr5 : (rows.set pl row5)[pl]? = some row5 := by rw [List.getElem?_set, if_pos rfl, if_pos hpl]
                    obtain ⟨q5, xs5, hq5, hq5m, hx5, ha5⟩ := M5.get hr5
                    have eq5 : q5 = q4 := Option.some.inj (hq5.symm.trans hqk)
                    subst eq5
                    have hxo5 := ha5.opts
                    subst hxo5
                    have hl5 := sw5.rl.len
                    obtain ⟨oo1, hoo⟩ : ∃ oo1, row5[p]? = some oo1 := ⟨_, List.getElem?_eq_getElem (by rw [hl5]; exact hpn)⟩
                    have htk : trow.take (k + 1) = trow.take k ++ [p] := by rw [List.take_add_one, hp]; rfl
                    have hp2 : p < (row5.map oV).length := by rw [List.length_map, hl5]; exact hpn
                    have stay : ¬ Bet oo1 (c + op.2.2.1) → (ag = false → DnO ops i' row5 ∧ DnQ op j row5 ∧ ∀ p, p ∈ trow.take (k + 1) → Rx row5 j p op.2.2.1) := fun hb z => by
                      obtain ⟨z1, z2, z3⟩ := hd5 z
                      refine ⟨z1, z2, fun p' hp' => ?_⟩
                      rw [htk] at hp'
                      rcases List.mem_append.mp hp' with hp' | hp'
                      · exact z3 p' hp'
                      · rw [List.mem_singleton.mp hp']; exact Rx.well hoc hoo hb
                    have fin : Bet oo1 (c + op.2.2.1) → Fe H (upd H5 q5 (.lst ((row5.map oV).set p (vN (c + op.2.2.1))))) ∧ Mat (rO rN) H (upd H5 q5 (.lst ((row5.map oV).set p (vN (c + op.2.2.1))))) D qs (rows.set pl (row5.set p (some (c + op.2.2.1)))) ∧
                        SwI m.1 (SilS b m) (Ar b m t bg pl pl) Mx Dx (Phi (Mx + m.1 * Dx) row1) (row5.set p (some (c + op.2.2.1))) true ∧ (row5.set p (some (c + op.2.2.1)))[j]? = some (some c) := fun hb => by
                      obtain ⟨R6, ph6⟩ := sw5.rl.put hoc hpm (hDS _ _ _ hpm) hoo hb
                      have M6 := M5.set (j := p) (v := vN (c + op.2.2.1)) (x := some (c + op.2.2.1)) hq5 hr5 hx5 ha5 rfl
                      rw [List.set_set] at M6
                      have hle := sw5.le
                      have hne : j ≠ p := by
                        intro z
                        subst z
                        rw [hoc] at hoo
                        cases hoo
                        exact absurd (hb c rfl) (by omega)
                      exact ⟨e5.mut (M5.new q5 hq5m), M6, ⟨R6, by omega, fun _ => by omega⟩, by rw [List.getElem?_set, if_neg hne.symm]; exact hoc⟩
                    refine ⟨_, rfl, _, rfl, q5, _, _, _, rfl, rfl, SqL.of hx5, atI_nat (at_oV hoo), rfl, _, rfl, ?_⟩
                    cases oo1 with
                    | none =>
                      refine iteT (iteT ?_)
                      refine ⟨_, rfl, _, rfl, q5, _, _, _, rfl, rfl, SqL.of hx5, by rw [Int.zero_add]; exact atI_nat (at_oV hoc), _, rfl, _, _, rfl, rfl, _, rfl, _, rfl, q5, _, _, _, rfl, rfl, hx5, ixn hp2, ?_⟩
                      obtain ⟨f1, f2, f3, f4⟩ := fin bet_none
                      exact ⟨_, true, _, rfl, f1, f2, f3, f4, fun z => nomatch z⟩
                    | some e6 =>
                      refine iteF ⟨_, rfl, _, rfl, q5, _, _, _, rfl, rfl, SqL.of hx5, atI_nat (at_oV hoo), _, rfl, _, rfl, q5, _, _, _, rfl, rfl, SqL.of hx5, by rw [Int.zero_add]; exact atI_nat (at_oV hoc), _, rfl, _, _, rfl, rfl, _, _, rfl, rfl, _, rfl, ?_⟩
                      by_cases hlt : c + op.2.2.1 < e6
                      · rw [decide_eq_true (show ((c : Int) + (op.2.2.1 : Int) < (e6 : Int)) by omega)]
                        refine iteT ?_
                        refine ⟨_, rfl, _, rfl, q5, _, _, _, rfl, rfl, SqL.of hx5, by rw [Int.zero_add]; exact atI_nat (at_oV hoc), _, rfl, _, _, rfl, rfl, _, rfl, _, rfl, q5, _, _, _, rfl, rfl, hx5, ixn hp2, ?_⟩
                        obtain ⟨f1, f2, f3, f4⟩ := fin (bet_some.mpr hlt)
                        exact ⟨_, true, _, rfl, f1, f2, f3, f4, fun z => nomatch z⟩
                      · rw [decide_eq_false (show ¬ ((c : Int) + (op.2.2.1 : Int) < (e6 : Int)) by omega)]
                        exact iteF ⟨row5, ag, _, rfl, e5, M5, sw5, hoc, stay fun z => hlt (bet_some.mp z)⟩
                  · rintro σ' H5 ⟨row5, ag, o13, rfl, e5, M5, sw5, hoc, hd5⟩
                    rw [List.length_map, List.take_length] at hd5
                    refine ⟨row5, ag, _, _, rfl, e5, M5, sw5, fun z => ?_⟩
                    obtain ⟨z1, z2, z3⟩ := hd5 z
                    refine ⟨z1, fun h0 q tr p hq htr hp => ?_⟩
                    by_cases hqj : q = j
                    · subst hqj
                      rw [htrow] at htr; cases htr
                      exact z3 p hp
                    · exact z2 h0 q tr p (by omega) htr hp
              · rw [decide_eq_false hrd]
                exact iteF (iteF ⟨row4, ag, _, _, rfl, e4, M4, sw4, fun z => ⟨(hd4 z).1, fun h0 => absurd h0 hrd⟩⟩)
            · rintro σ' H4 ⟨row4, ag, o12, o13, rfl, e4, M4, sw4, hd4⟩
              refine ⟨row4, ag, _, _, _, _, _, _, rfl, e4, M4, sw4, fun z i2 op2 h1 h2 h3 q tr p h4 h5 => ?_⟩
              by_cases h6 : i2 = i'
              · subst h6
                rw [hop] at h2; cases h2
                have hql : q < m.1 := by
                  have h7 := (List.getElem?_eq_some_iff.mp h4).1
                  rw [(oo.ok _ _ hop).2.len] at h7
                  exact h7
                exact (hd4 z).2 h3 q tr p hql h4 h5
              · exact (hd4 z).1 i2 op2 (by omega) h2 h3 q tr p h4 h5
          · rintro σ' H3 ⟨row3, ag, o8, o9, o10, o11, o12, o13, rfl, e3, M3, sw3, hd3⟩
            have hle := sw3.le
            have hlt := sw3.lt
            rw [hol.len] at hd3
            refine ⟨2 * Phi (Mx + m.1 * Dx) row3 + (if ag then 1 else 0), ?_, row3, ag, _, _, _, _, _, _, rfl, e3, M3, sw3.rl, hd3, rfl⟩
            cases ag with
            | true => have := hlt rfl; simp only [if_true]; omega
            | false => simp only [if_true, Bool.false_eq_true, if_false]; omega
        | false =>
          refine iteF ?_
          have hcl : LRow m.1 (Wh b m t bg pl) row1 := by
            have := R2.done fun q p d h => ?_
            · exact this.imp (fun q c z => wh_cl.mpr z) (fun q c z => ⟨c, wh_cl.mp z, Nat.le_refl _⟩)
            · intro c hc
              have hq : q < m.1 := by rw [← R2.len]; exact (List.getElem?_eq_some_iff.mp hc).1
              obtain ⟨i', op, tr, h1, h2, h3, h4, h5⟩ := oo.from_ hq h
              have := hdn rfl i' op (List.getElem?_eq_some_iff.mp h1).1 h1 h2 q tr p h4 h5
              rw [h3] at this
              exact this c hc
          have hlen2 : (rows.set pl row1).length = t.length + 1 := by rw [List.length_set]; exact hl
          have hrow1 : (rows.set pl row1)[pl]? = some row1 := by rw [List.getElem?_set, if_pos rfl, if_pos hpl]
          have hoth : ∀ (k : Nat) (rw_ : CRow), k ≠ pl → (rows.set pl row1)[k]? = some rw_ → rows[k]? = some rw_ := fun k rw_ hk h => by
            rw [List.getElem?_set, if_neg hk.symm] at h
            exact h
          have ht1 : t.length + 1 = rows.length := hl.symm
          have hplt : pl ≤ t.length := by omega
          refine ⟨_, rfl, oa, rfl, ⟨_, SqL.of (e2.k hoa)⟩, for_lst (xs := oxs) (fun i' σ' H' => ∃ (rows' : List CRow) (o8 o9 o10 o11 o12 o13 o14 : Option V), σ' = [some (.ref oa), some (vN m.1), some (.str ⟨t.toArray⟩), some (vN bg), some (.ref D), some (.int ((bg : Int) + (i : Int))), some (.ref qk), some (.bl false), o8, o9, o10, o11, o12, o13, o14] ∧ Fe H H' ∧ Mat (rO rN) H H' D qs rows' ∧ rows'.length = t.length + 1 ∧
            rows'[pl]? = some row1 ∧ (∀ (k : Nat) (rw_ : CRow), rows'[k]? = some rw_ → (k < pl → LRow m.1 (Wh b m t bg k) rw_) ∧ (pl < k → LRow m.1 (AS b m t bg pl row1 ops i' k) rw_)))
            ⟨rows.set pl row1, _, _, _, _, _, _, _, rfl, e2, M2, hlen2, hrow1, fun k rw_ hk => ⟨fun h => ?_, fun h => ?_⟩⟩ (fun i' σ' H' _ ⟨_, _, _, _, _, _, _, _, _, e, _⟩ => e.k hoa) ?_ ?_⟩
          · have := hrows k rw_ (hoth k rw_ (by omega) hk)
            rw [if_pos h] at this
            exact this
          · have := hrows k rw_ (hoth k rw_ (by omega) hk)
            rw [if_neg (by omega)] at this
            exact this.imp (fun _ _ => .inl) (fun q c z => by
              rcases z with z | ⟨i2, _, _, _, _, z, _⟩
              · exact ⟨c, z, Nat.le_refl _⟩
              · exact absurd z (by omega))
          · clear hoth hrow1 hlen2 hdn M2 R2 e2
            rintro i' xv σ' H3 hx ⟨rows3, o8, o9, o10, o11, o12, o13, o14, rfl, e3, M3, hl3, hpl3, hr3⟩
            obtain ⟨op, hop, hxr0⟩ := hol.get hx
            obtain ⟨ua, x1, x2, x3, x4, rfl, hua, rfl, rfl, rfl, htab⟩ := id hxr0
            obtain ⟨ta, txs, rfl, hta, htal⟩ := id (show rL (rL rN) H x4 op.2.2.2 from htab)
            have hop3 := hshort op (List.mem_of_getElem? hop)
            have skip : (op.1 = [] ∨ (t.drop pl).take op.1.length ≠ op.1) → ∀ (k : Nat) (rw_ : CRow), rows3[k]? = some rw_ → (k < pl → LRow m.1 (Wh b m t bg k) rw_) ∧ (pl < k → LRow m.1 (AS b m t bg pl row1 ops (i' + 1) k) rw_) := fun hs k rw_ hk => by
              obtain ⟨h1, h2⟩ := hr3 k rw_ hk
              refine ⟨h1, fun h => (h2 h).imp ?_ ?_⟩
              · rintro q c (z | ⟨i2, op2, q', c', tr, z1, z2⟩)
                · exact .inl z
                · exact .inr ⟨i2, op2, q', c', tr, by omega, z2⟩
              · rintro q c (z | ⟨i2, op2, q', c', tr, z1, z2, z3, z4, z5⟩)
                · exact ⟨c, .inl z, Nat.le_refl _⟩
                · by_cases hi2 : i2 = i'
                  · subst hi2
                    rw [hop] at z2; cases z2
                    exact (hs.elim (fun z => absurd z z3) fun z => absurd z4 z)
                  · exact ⟨c, .inr ⟨i2, op2, q', c', tr, by omega, z2, z3, z4, z5⟩, Nat.le_refl _⟩
            refine ⟨ua, _, rfl, SqT.of (e3.k hua), rfl, _, _, rfl, _, _, rfl, _, _, rfl, _, _, rfl, rfl, ?_⟩
            refine ⟨_, rfl, rfl, _, rfl, ?_⟩
            rw [dec_str_nil]
            by_cases hrd : op.1 = []
            · rw [decide_eq_true hrd]
              exact iteF (iteF ⟨rows3, _, _, _, _, _, _, _, rfl, e3, M3, hl3, hpl3, skip (.inl hrd)⟩)
            · rw [decide_eq_false hrd]
              have hsz : ((⟨op.1.toArray⟩ : Str).length : Nat) = op.1.length := slen _
              refine iteT ⟨_, rfl, _, rfl, _, rfl, _, rfl, _, rfl, _, rfl, ?_, _, _, rfl, rfl, _, rfl, _, rfl, by rw [slen, sizeLine_eq]; omega, _, rfl, rfl, _, rfl, ?_⟩
              · rw [slen, sizeLine_eq]; show op.1.length ≤ _; omega
              · have ecut : cutS ⟨t.toArray⟩ (some ((bg : Int) + (i : Int))) (some ((bg : Int) + (i : Int) + (((⟨op.1.toArray⟩ : Str).length : Nat) : Int))) = ⟨((t.drop pl).take op.1.length).toArray⟩ := by rw [epl, hsz, cut_mid t pl op.1.length hplt]
                rw [ecut]
                by_cases hmt : (t.drop pl).take op.1.length = op.1
                · rw [decide_eq_true (by rw [hmt])]
                  have hk2 : pl + op.1.length ≤ t.length := by
                    have := congrArg List.length hmt
                    rw [List.length_take, List.length_drop] at this
                    omega
                  have hrp : 0 < op.1.length := List.length_pos_iff.mpr hrd
                  generalize hk2e : pl + op.1.length = k2 at hk2
                  obtain ⟨row2, hrow2⟩ : ∃ row2, rows3[k2]? = some row2 := ⟨_, List.getElem?_eq_getElem (by omega)⟩
                  have hL2 := (hr3 k2 row2 hrow2).2 (by omega)
                  obtain ⟨q2, xs2, hq2, hq2m, hx2, ha2⟩ := M3.get hrow2
                  have hxo2 := ha2.opts
                  subst hxo2
                  refine iteT ?_
                  refine ⟨_, rfl, _, rfl, _, rfl, _, rfl, by rw [slen, sizeLine_eq]; show op.1.length ≤ _; omega, _, _, rfl, rfl, D, _, _, .ref q2, rfl, rfl, SqL.of M3.at_, ?_, ?_⟩
                  · rw [hsz, epl, show ((pl : Int) + (op.1.length : Int)) = ((k2 : Nat) : Int) by omega]
                    exact atI_nat (by rw [List.getElem?_map, hq2]; rfl)
                  refine ⟨_, rfl, _, rfl, by omega, by omega, ?_⟩
                  have hcm : (m.1 : Int).toNat = m.1 := by omega
                  rw [hcm]
                  refine for_range (lo := 0) (n := m.1) (fun j σ' H' => ∃ (trw : CRow) (o12 o13 : Option V), σ' = [some (.ref oa), some (vN m.1), some (.str ⟨t.toArray⟩), some (vN bg), some (.ref D), some (.int ((bg : Int) + (i : Int))), some (.ref qk), some (.bl false), some (.str ⟨op.1.toArray⟩), some (.str ⟨op.2.1.toArray⟩), some (vN op.2.2.1), some (.ref ta), o12, o13, some (.ref q2)] ∧ Fe H H' ∧ Mat (rO rN) H H' D qs (rows3.set k2 trw) ∧
                    LRow m.1 (fun q c => AS b m t bg pl row1 ops i' k2 q c ∨ ∃ (q' c' : Nat) (tr : List Nat), q' < j ∧ row1[q']? = some (some c') ∧ op.2.2.2[q']? = some tr ∧ q ∈ tr ∧ c = c' + op.2.2.1) trw) ⟨row2, _, _, rfl, e3, ?_, hL2.imp (fun _ _ => .inl) (fun q c z => ?_)⟩ ?_ ?_
                  · have : rows3.set k2 row2 = rows3 := by
                      apply List.ext_getElem?
                      intro k
                      rw [List.getElem?_set]
                      by_cases z : k2 = k
                      · subst z; rw [if_pos rfl, if_pos (by omega), hrow2]
                      · rw [if_neg z]
                    rw [this]; exact M3
                  · rcases z with z | ⟨_, _, _, z, _⟩
                    · exact ⟨c, z, Nat.le_refl _⟩
                    · exact absurd z (by omega)
                  · rintro j σ' H4 hj ⟨trw, o12, o13, rfl, e4, M4, hLt⟩
                    have hp4 : (rows3.set k2 trw)[pl]? = some row1 := by rw [List.getElem?_set, if_neg (by omega)]; exact hpl3
                    obtain ⟨q4, xs4, hq4, _, hx4, ha4⟩ := M4.get hp4
                    have eq4 : q4 = qk := Option.some.inj (hq4.symm.trans hqk)
                    subst eq4
                    have hxo4 := ha4.opts
                    subst hxo4
                    have hl4 := hcl.len
                    obtain ⟨oc, hoc⟩ : ∃ oc, row1[j]? = some oc := ⟨_, List.getElem?_eq_getElem (by rw [hl4]; exact hj)⟩
                    refine ⟨_, rfl, _, rfl, q4, _, _, _, rfl, rfl, SqL.of hx4, by rw [Int.zero_add]; exact atI_nat (at_oV hoc), rfl, _, rfl, ?_⟩
                    cases oc with
                    | none =>
                      refine iteF ⟨trw, _, _, rfl, e4, M4, hLt.imp ?_ ?_⟩
                      · rintro q c (z | ⟨q', c', tr, z1, z2⟩)
                        · exact .inl z
                        · exact .inr ⟨q', c', tr, by omega, z2⟩
                      · rintro q c (z | ⟨q', c', tr, z1, z2, z3⟩)
                        · exact ⟨c, .inl z, Nat.le_refl _⟩
                        · have : q' ≠ j := fun e => by rw [e, hoc] at z2; cases z2
                          exact ⟨c, .inr ⟨q', c', tr, by omega, z2, z3⟩, Nat.le_refl _⟩
                    | some c0 =>
                      refine iteT ?_
                      obtain ⟨trow, htrow⟩ := oo.row hop hj
                      obtain ⟨tv, htv, htr⟩ := htal.at htrow
                      obtain ⟨tra, trx, rfl, htra, htral⟩ := id htr
                      have htn := htral.nats
                      subst htn
                      have hmov : ∀ p, p ∈ trow → p < m.1 := fun p hp => ops_lt mok hj (oo.to hop htrow hp)
                      refine ⟨_, rfl, _, rfl, ta, _, _, .ref tra, rfl, rfl, SqL.of (e4.k hta), by rw [Int.zero_add]; exact atI_nat htv, tra, rfl, ⟨_, SqL.of (e4.k htra)⟩, for_lst (xs := trow.map vN) (fun k σ' H' => ∃ (trw : CRow) (o13 : Option V), σ' = [some (.ref oa), some (vN m.1), some (.str ⟨t.toArray⟩), some (vN bg), some (.ref D), some (.int ((bg : Int) + (i : Int))), some (.ref q4), some (.bl false), some (.str ⟨op.1.toArray⟩), some (.str ⟨op.2.1.toArray⟩), some (vN op.2.2.1), some (.ref ta), some (.int (0 + (j : Int))), o13, some (.ref q2)] ∧ Fe H H' ∧ Mat (rO rN) H H' D qs (rows3.set k2 trw) ∧
                        LRow m.1 (fun q c => (AS b m t bg pl row1 ops i' k2 q c ∨ ∃ (q' c' : Nat) (tr : List Nat), q' < j ∧ row1[q']? = some (some c') ∧ op.2.2.2[q']? = some tr ∧ q ∈ tr ∧ c = c' + op.2.2.1) ∨ (q ∈ trow.take k ∧ c = c0 + op.2.2.1)) trw) ⟨trw, _, rfl, e4, M4, hLt.imp (fun _ _ => .inl) (fun q c z => ?_)⟩ (fun k σ' H' _ ⟨_, _, _, e, _⟩ => e.k htra) ?_ ?_⟩
                      · rcases z with z | ⟨z, _⟩
                        · exact ⟨c, z, Nat.le_refl _⟩
                        · exact nomatch z
                      · clear hLt M4 hx4 hp4 ha4
                        rintro k yv σ' H5 hy ⟨trw5, o13, rfl, e5, M5, hL5⟩
                        rw [List.getElem?_map] at hy
                        obtain ⟨p, hp, rfl⟩ : ∃ p, trow[k]? = some p ∧ yv = vN p := by
                          cases z : trow[k]? with
                          | none => rw [z] at hy; cases hy
                          | some q => rw [z] at hy; exact ⟨q, rfl, (Option.some.inj hy).symm⟩
                        have hpn : p < m.1 := hmov p (List.mem_of_getElem? hp)
                        have hr5 : (rows3.set k2 trw5)[k2]? = some trw5 := by rw [List.getElem?_set, if_pos rfl, if_pos (by omega)]
                        obtain ⟨q5, xs5, hq5, hq5m, hx5, ha5⟩ := M5.get hr5
                        have eq5 : q5 = q2 := Option.some.inj (hq5.symm.trans hq2)
                        subst eq5
                        have hxo5 := ha5.opts
                        subst hxo5
                        have hp5 : (rows3.set k2 trw5)[pl]? = some row1 := by rw [List.getElem?_set, if_neg (by omega)]; exact hpl3
                        obtain ⟨q6, xs6, hq6, _, hx6, ha6⟩ := M5.get hp5
                        have eq6 : q6 = q4 := Option.some.inj (hq6.symm.trans hqk)
                        subst eq6
                        have hxo6 := ha6.opts
                        subst hxo6
                        have hl5 := hL5.len
                        obtain ⟨oo1, hoo⟩ : ∃ oo1, trw5[p]? = some oo1 := ⟨_, List.getElem?_eq_getElem (by rw [hl5]; exact hpn)⟩
                        have htk : trow.take (k + 1) = trow.take k ++ [p] := by rw [List.take_add_one, hp]; rfl
                        have hp2 : p < (trw5.map oV).length := by rw [List.length_map, hl5]; exact hpn
                        have cong : ∀ told' : CRow, LRow m.1 (fun h c => ((AS b m t bg pl row1 ops i' k2 h c ∨ ∃ (q' c' : Nat) (tr : List Nat), q' < j ∧ row1[q']? = some (some c') ∧ op.2.2.2[q']? = some tr ∧ h ∈ tr ∧ c = c' + op.2.2.1) ∨ (h ∈ trow.take k ∧ c = c0 + op.2.2.1)) ∨ (h = p ∧ c = c0 + op.2.2.1)) told' →
                            LRow m.1 (fun q c => (AS b m t bg pl row1 ops i' k2 q c ∨ ∃ (q' c' : Nat) (tr : List Nat), q' < j ∧ row1[q']? = some (some c') ∧ op.2.2.2[q']? = some tr ∧ q ∈ tr ∧ c = c' + op.2.2.1) ∨ (q ∈ trow.take (k + 1) ∧ c = c0 + op.2.2.1)) told' := fun told' R' => by
                          rw [htk]
                          refine R'.imp ?_ ?_
                          · rintro h c ((z | ⟨z1, z2⟩) | ⟨rfl, z2⟩)
                            · exact .inl z
                            · exact .inr ⟨List.mem_append_left _ z1, z2⟩
                            · exact .inr ⟨List.mem_append_right _ (List.mem_singleton.mpr rfl), z2⟩
                          · rintro h c (z | ⟨z1, z2⟩)
                            · exact ⟨c, .inl (.inl z), Nat.le_refl _⟩
                            · rcases List.mem_append.mp z1 with z1 | z1
                              · exact ⟨c, .inl (.inr ⟨z1, z2⟩), Nat.le_refl _⟩
                              · exact ⟨c, .inr ⟨List.mem_singleton.mp z1, z2⟩, Nat.le_refl _⟩
                        have fin : Bet oo1 (c0 + op.2.2.1) → Fe H (upd H5 q5 (.lst ((trw5.map oV).set p (vN (c0 + op.2.2.1))))) ∧ Mat (rO rN) H (upd H5 q5 (.lst ((trw5.map oV).set p (vN (c0 + op.2.2.1))))) D qs (rows3.set k2 (trw5.set p (some (c0 + op.2.2.1)))) ∧ _ := fun hb => by
                          have M6 := M5.set (j := p) (v := vN (c0 + op.2.2.1)) (x := some (c0 + op.2.2.1)) hq5 hr5 hx5 ha5 rfl
                          rw [List.set_set] at M6
                          exact ⟨e5.mut (M5.new q5 hq5m), M6, cong _ (hL5.put hoo hb)⟩
                        refine ⟨_, rfl, _, rfl, q5, _, _, _, rfl, rfl, SqL.of hx5, atI_nat (at_oV hoo), rfl, _, rfl, ?_⟩
                        cases oo1 with
                        | none =>
                          refine iteT (iteT ?_)
                          refine ⟨_, rfl, _, rfl, q6, _, _, _, rfl, rfl, SqL.of hx6, by rw [Int.zero_add]; exact atI_nat (at_oV hoc), _, rfl, _, _, rfl, rfl, _, rfl, _, rfl, q5, _, _, _, rfl, rfl, hx5, ixn hp2, ?_⟩
                          obtain ⟨f1, f2, f3⟩ := fin bet_none
                          exact ⟨_, _, rfl, f1, f2, f3⟩
                        | some e6 =>
                          refine iteF ⟨_, rfl, _, rfl, q5, _, _, _, rfl, rfl, SqL.of hx5, atI_nat (at_oV hoo), _, rfl, _, rfl, q6, _, _, _, rfl, rfl, SqL.of hx6, by rw [Int.zero_add]; exact atI_nat (at_oV hoc), _, rfl, _, _, rfl, rfl, _, _, rfl, rfl, _, rfl, ?_⟩
                          by_cases hlt : c0 + op.2.2.1 < e6
                          · rw [decide_eq_true (show ((c0 : Int) + (op.2.2.1 : Int) < (e6 : Int)) by omega)]
                            refine iteT ?_
                            refine ⟨_, rfl, _, rfl, q6, _, _, _, rfl, rfl, SqL.of hx6, by rw [Int.zero_add]; exact atI_nat (at_oV hoc), _, rfl, _, _, rfl, rfl, _, rfl, _, rfl, q5, _, _, _, rfl, rfl, hx5, ixn hp2, ?_⟩
                            obtain ⟨f1, f2, f3⟩ := fin (bet_some.mpr hlt)
                            exact ⟨_, _, rfl, f1, f2, f3⟩
                          · rw [decide_eq_false (show ¬ ((c0 : Int) + (op.2.2.1 : Int) < (e6 : Int)) by omega)]
                            exact iteF ⟨trw5, _, rfl, e5, M5, cong _ (hL5.keep hoo fun z => hlt (bet_some.mp z))⟩
                      · rintro σ' H5 ⟨trw5, o13, rfl, e5, M5, hL5⟩
                        rw [List.length_map, List.take_length] at hL5
                        refine ⟨trw5, _, _, rfl, e5, M5, hL5.imp ?_ ?_⟩
                        · rintro q c ((z | ⟨q', c', tr, z1, z2⟩) | ⟨z1, z2⟩)
                          · exact .inl z
                          · exact .inr ⟨q', c', tr, by omega, z2⟩
                          · exact .inr ⟨j, c0, trow, by omega, hoc, htrow, z1, z2⟩
                        · rintro q c (z | ⟨q', c', tr, z1, z2, z3, z4, z5⟩)
                          · exact ⟨c, .inl (.inl z), Nat.le_refl _⟩
                          · by_cases hqj : q' = j
                            · subst hqj
                              rw [hoc] at z2; cases z2
                              rw [htrow] at z3; cases z3
                              exact ⟨c, .inr ⟨z4, z5⟩, Nat.le_refl _⟩
                            · exact ⟨c, .inl (.inr ⟨q', c', tr, by omega, z2, z3, z4, z5⟩), Nat.le_refl _⟩
                  · rintro σ' H4 ⟨trw, o12, o13, rfl, e4, M4, hLt⟩
                    refine ⟨rows3.set k2 trw, _, _, _, _, _, _, _, rfl, e4, M4, by rw [List.length_set]; exact hl3, by rw [List.getElem?_set, if_neg (by omega)]; exact hpl3, fun k rw_ hk => ?_⟩
                    rw [List.getElem?_set] at hk
                    by_cases hkk : k2 = k
                    · subst hkk
                      rw [if_pos rfl, if_pos (by omega)] at hk
                      cases hk
                      refine ⟨fun h => absurd h (by omega), fun _ => hLt.imp ?_ ?_⟩
                      · rintro q c ((z | ⟨i2, op2, q', c', tr, z1, z2⟩) | ⟨q', c', tr, z1, z2, z3, z4, z5⟩)
                        · exact .inl z
                        · exact .inr ⟨i2, op2, q', c', tr, by omega, z2⟩
                        · exact .inr ⟨i', op, q', c', tr, by omega, hop, hrd, hmt, hk2e.symm, z2, z3, z4, z5⟩
                      · rintro q c (z | ⟨i2, op2, q', c', tr, z1, z2, z3, z4, z5, z6, z7, z8, z9⟩)
                        · exact ⟨c, .inl (.inl z), Nat.le_refl _⟩
                        · by_cases hi2 : i2 = i'
                          · subst hi2
                            rw [hop] at z2; cases z2
                            have hql : q' < m.1 := by
                              have h7 := (List.getElem?_eq_some_iff.mp z7).1
                              rw [(oo.ok _ _ hop).2.len] at h7
                              exact h7
                            exact ⟨c, .inr ⟨q', c', tr, hql, z6, z7, z8, z9⟩, Nat.le_refl _⟩
                          · exact ⟨c, .inl (.inr ⟨i2, op2, q', c', tr, by omega, z2, z3, z4, z5, z6, z7, z8, z9⟩), Nat.le_refl _⟩
                    · rw [if_neg hkk] at hk
                      obtain ⟨h1, h2⟩ := hr3 k rw_ hk
                      refine ⟨h1, fun h => (h2 h).imp ?_ ?_⟩
                      · rintro q c (z | ⟨i2, op2, q', c', tr, z1, z2⟩)
                        · exact .inl z
                        · exact .inr ⟨i2, op2, q', c', tr, by omega, z2⟩
                      · rintro q c (z | ⟨i2, op2, q', c', tr, z1, z2, z3, z4, z5⟩)
                        · exact ⟨c, .inl z, Nat.le_refl _⟩
                        · by_cases hi2 : i2 = i'
                          · subst hi2
                            rw [hop] at z2; cases z2
                            exact absurd (z5.1.trans hk2e) (fun e => hkk e.symm)
                          · exact ⟨c, .inr ⟨i2, op2, q', c', tr, by omega, z2, z3, z4, z5⟩, Nat.le_refl _⟩
                · rw [decide_eq_false (fun z => hmt (str_inj (V.str.inj z)))]
                  exact iteF ⟨rows3, _, _, _, _, _, _, _, rfl, e3, M3, hl3, hpl3, skip (.inr hmt)⟩
          · rintro σ' H3 ⟨rows3, o8, o9, o10, o11, o12, o13, o14, rfl, e3, M3, hl3, hpl3, hr3⟩
            rw [hol.len] at hr3
            refine ⟨rows3, _, _, _, _, _, _, _, _, _, _, rfl, e3, M3, hl3, fun k rw_ hk => ?_⟩
            obtain ⟨h1, h2⟩ := hr3 k rw_ hk
            rw [show bg + (i + 1) = pl + 1 by omega]
            by_cases hkp : k < pl
            · rw [if_pos (by omega)]; exact h1 hkp
            · by_cases hke : k = pl
              · subst hke
                rw [if_pos (by omega)]
                rw [hpl3] at hk; cases hk
                exact hcl
              · rw [if_neg (by omega)]
                exact as_ar mok oo hcl (h2 (by omega))
      · rintro σ' H' ⟨rows, o5, o6, o7, o8, o9, o10, o11, o12, o13, o14, rfl, e, Mt, hl, hrows⟩
        refine ⟨_, rfl, kk D H' qs rows e Mt hl fun k row hrow => ?_⟩
        have := hrows k row hrow
        rw [if_pos (by have := (List.getElem?_eq_some_iff.mp hrow).1; omega)] at this
        exact this
end
end Fm
namespace Fm
open PySem L2
abbrev HRow := Nat × List Nat × List (Nat × Nat × Nat)
/-- a row of the houses; its lists are not R -/
def rRow (R : Addr) (N : List Addr) : Rp HRow := fun H v x => ∃ (t E S : Addr) (vs : List V), v = .ref t ∧ H t = some (.tup [.int (x.1 : Int), .ref E, .ref S]) ∧ H E = some (.lst (x.2.1.map vN)) ∧ H S = some (.lst vs) ∧ Al rStep H vs x.2.2 ∧ E ≠ R ∧ S ≠ R ∧ E ∉ N ∧ S ∉ N
theorem rRow.f {R : Addr} {N : List Addr} {H H' : Hp} {v : V} {x : HRow} (h : rRow R N H v x) (f : Fx [R] H H') : rRow R N H' v x := by
  obtain ⟨t, E, S, vs, rfl, h1, h2, h3, h4, h5, h6, h7⟩ := h
  exact ⟨t, E, S, vs, rfl, f.tups _ _ h1, f.keep _ _ (fun z => h5 (List.mem_singleton.mp z)) h2, f.keep _ _ (fun z => h6 (List.mem_singleton.mp z)) h3, Al.mo f h4, h5, h6, h7⟩
theorem rRow.al {R : Addr} {N : List Addr} {H H' : Hp} {vs : List V} {xs : List HRow} (h : Al (rRow R N) H vs xs) (f : Fx [R] H H') : Al (rRow R N) H' vs xs := L2.Paired.mapP h fun _ _ q => rRow.f q f
/-- a row while it is made -/
structure RB (H0 H : Hp) (E : Addr) (es : List Nat) (vs : List V) (sts : List (Nat × Nat × Nat)) : Prop where
  fe : Fe H0 H
  nE : H0 E = none
  hE : H E = some (.lst (es.map vN))
  al : Al rStep H vs sts
theorem RB.start {H : Hp} {E : Addr} (es : List Nat) (h : H E = none) : RB H (upd H E (.lst (es.map vN))) E es [] [] := ⟨Fe.new h, h, upd_same, .nil⟩
theorem RB.tup {H0 H : Hp} {E : Addr} {es : List Nat} {vs : List V} {sts : List (Nat × Nat × Nat)} (b : RB H0 H E es vs sts) {t : Addr} (h : H t = none) (x c y : Nat) : RB H0 (upd H t (.tup [.int (x : Int), s1 c, .int (y : Int)])) E es (vs ++ [.ref t]) (sts ++ [(x, c, y)]) := by
  have f := Fe.new (o := .tup [.int (x : Int), s1 c, .int (y : Int)]) h
  exact ⟨b.fe.trans f, b.nE, f.k b.hE, Al.snoc ⟨t, _, _, _, rfl, upd_same, rfl, rfl, rfl⟩ (Al.mo f b.al)⟩
theorem RB.fin {H0 H : Hp} {E : Addr} {es : List Nat} {vs : List V} {sts : List (Nat × Nat × Nat)} (b : RB H0 H E es vs sts) {S t R : Addr} {N : List Addr} (hS : H S = none) (n : Nat) (ht : (upd H S (.lst vs)) t = none) (nw : ∀ q, H0 q = none → q ∉ N) (hE : E ≠ R) (hSR : S ≠ R) :
    Fe H0 (upd (upd H S (.lst vs)) t (.tup [.int (n : Int), .ref E, .ref S])) ∧ rRow R N (upd (upd H S (.lst vs)) t (.tup [.int (n : Int), .ref E, .ref S])) (.ref t) (n, es, sts) := by
  have f1 := Fe.new (o := .lst vs) hS
  have f2 := Fe.new (o := .tup [.int (n : Int), .ref E, .ref S]) ht
  exact ⟨(b.fe.trans f1).trans f2, t, E, S, vs, rfl, upd_same, f2.k (f1.k b.hE), f2.k upd_same, Al.mo f2 (Al.mo f1 b.al), hE, hSR, nw _ b.nE, nw _ (b.fe.free hS)⟩
def rowsL (a b : Nat) : List HRow := [(2, [0, 1], [(0, a, 0), (0, b, 1), (1, b, 1)]), (2, [0], [(0, a, 1), (1, b, 0)]), (3, [2], [(0, a, 0), (0, b, 0), (0, a, 1), (1, b, 2)]), (2, [0], [(0, a, 1), (0, b, 1), (1, a, 0), (1, b, 0)]),
  (4, [2, 3], [(0, a, 1), (1, a, 2), (0, b, 3), (3, b, 2)]), (3, [1, 2], [(0, a, 1), (1, a, 1), (0, b, 2), (2, a, 2), (2, b, 1)])]
/-- what is asked of a row -/
structure RowOk (a b n : Nat) (el : List Nat) (sts : List (Nat × Nat × Nat)) : Prop where
  n0 : 0 < n
  n5 : n ≤ 5
  es : ∀ q ∈ el, q < n
  fewE : el.length ≤ 5
  st : ∀ s ∈ sts, s.1 < n ∧ s.2.2 < n ∧ s.2.1 ∈ [a, b]
  fewS : sts.length ≤ 8
theorem rowsL_ok (a b : Nat) : ∀ r ∈ rowsL a b, (r.1 ≤ 4 ∧ r.2.2.length ≤ 5) ∧ RowOk a b r.1 r.2.1 r.2.2 := by
  intro r hr
  unfold rowsL at hr
  simp only [List.mem_cons, List.not_mem_nil, or_false] at hr
  rcases hr with rfl | rfl | rfl | rfl | rfl | rfl
  all_goals
    refine ⟨⟨by simp, by simp⟩, ⟨by simp, by simp, by simp, by simp, fun s hs => ?_, by simp⟩⟩
    simp only [List.mem_cons, List.not_mem_nil, or_false] at hs
    first
      | (rcases hs with rfl | rfl | rfl | rfl | rfl <;> simp)
      | (rcases hs with rfl | rfl | rfl | rfl <;> simp)
      | (rcases hs with rfl | rfl | rfl <;> simp)
      | (rcases hs with rfl | rfl <;> simp)
def spHouse : Sp := fun vs H Q _ => ∃ (p g : Addr) (a b : Nat), vs = [.ref p, s1 a, s1 b] ∧ Pl H p g ∧ ∀ (v : V) (m : Mach) (H' : Hp), Fx [p, g] H H' → Pl H' p g → rMach H' v m → MOk m → m.1 ≤ 5 → (∀ s ∈ m.2.2, s.2.1 ∈ [a, b]) → m.2.2.length ≤ 10 → m.2.1.length ≤ 20 → Q v H'
theorem Fe.newK {H : Hp} {p : Addr} {o : HO} (h : H p = none) : Fe H (upd H p o) ∧ (upd H p o) p = some o := ⟨Fe.new h, upd_same⟩
theorem Fx.putK {M : List Addr} {H : Hp} {p : Addr} {o u : HO} (hp : H p = some u) (hM : p ∈ M) (hu : ∀ xs, u ≠ .tup xs) : Fx M H (upd H p o) ∧ (upd H p o) p = some o := ⟨Fx.put hp hM hu, upd_same⟩
theorem RB.ff {H0 H : Hp} {E : Addr} {es : List Nat} {vs : List V} {sts : List (Nat × Nat × Nat)} (b : RB H0 H E es vs sts) {S t : Addr} (hS : H S = none) (n : Nat) (ht : (upd H S (.lst vs)) t = none) :
    Fe H0 (upd (upd H S (.lst vs)) t (.tup [.int (n : Int), .ref E, .ref S])) ∧ (upd (upd H S (.lst vs)) t (.tup [.int (n : Int), .ref E, .ref S])) E = some (.lst (es.map vN)) ∧ (upd (upd H S (.lst vs)) t (.tup [.int (n : Int), .ref E, .ref S])) S = some (.lst vs) := by
  have f1 := Fe.new (o := .lst vs) hS
  have f2 := Fe.new (o := .tup [.int (n : Int), .ref E, .ref S]) ht
  exact ⟨(b.fe.trans f1).trans f2, f2.k (f1.k b.hE), f2.k upd_same⟩
theorem RB.fi {H0 H : Hp} {E : Addr} {es : List Nat} {vs : List V} {sts : List (Nat × Nat × Nat)} (b : RB H0 H E es vs sts) {S t R : Addr} {N : List Addr} {o : HO} (hS : H S = none) (n : Nat) (ht : (upd H S (.lst vs)) t = none) (nw : ∀ q, H0 q = none → q ∉ N) (hR : H0 R = some o) :
    Fe H0 (upd (upd H S (.lst vs)) t (.tup [.int (n : Int), .ref E, .ref S])) ∧ rRow R N (upd (upd H S (.lst vs)) t (.tup [.int (n : Int), .ref E, .ref S])) (.ref t) (n, es, sts) :=
  b.fin hS n ht nw (ne_of_none hR b.nE).symm (ne_of_none hR (b.fe.free hS)).symm
def HWi (p g : Addr) (a b kd n : Nat) (R E S N L : Addr) (H : Hp) (es : List Nat) (vs : List V) (sts : List (Nat × Nat × Nat)) (m : Nat) (σ' : L2.St) (H' : Hp) : Prop :=
  ∃ nums lft : List Nat, σ' = [some (.ref p), some (s1 a), some (s1 b), some (.int (kd : Int)), some (.ref R), some (.int (n : Int)), some (.ref E), some (.ref S), some (.ref N), some (.ref L), none, none, none, none] ∧ Fx [p, g] H H' ∧ Pl H' p g ∧
    H' E = some (.lst (es.map vN)) ∧ H' S = some (.lst vs) ∧ Al rStep H' vs sts ∧ H' N = some (.lst (nums.map vN)) ∧ H' L = some (.lst (lft.map vN)) ∧ (nums ++ lft).Perm (List.range n) ∧ m = lft.length
section
variable {P : Program} {w : World} {K : PySem.W.Frag} {g : Str → Option Value} {base : Heap}
end
end Fm
namespace Fm
open PySem L2
/-- laps over a set of states: S the moves between states below n; A what is there at first -/
structure Lap (n : Nat) (S : Nat → Nat → Prop) (A : Nat → Prop) (k : Nat) (l : List Nat) : Prop where
  lt : ∀ q ∈ l, q < n
  beg : ∀ q, A q → q ∈ l
  snd : ∀ q ∈ l, ∀ X : Nat → Prop, (∀ q, A q → X q) → (∀ p q, X p → S p q → X q) → X q
  more : (∀ p q, p ∈ l → S p q → q ∈ l) ∨ ∃ D : List Nat, D.Nodup ∧ (∀ x ∈ D, x ∈ l) ∧ k ≤ D.length
theorem Lap.next {n : Nat} {S : Nat → Nat → Prop} {A : Nat → Prop} {k : Nat} {l l' : List Nat} (L : Lap n S A k l) (hS : ∀ p q, S p q → q < n) (h : ∀ q, q ∈ l' ↔ (q ∈ l ∨ ∃ p, p ∈ l ∧ S p q)) : Lap n S A (k + 1) l' where
  lt := fun q hq => by
    rcases (h q).mp hq with z | ⟨p, _, z⟩
    · exact L.lt q z
    · exact hS p q z
  beg := fun q hq => (h q).mpr (.inl (L.beg q hq))
  snd := fun q hq X h1 h2 => by
    rcases (h q).mp hq with z | ⟨p, z1, z2⟩
    · exact L.snd q z X h1 h2
    · exact h2 p q (L.snd p z1 X h1 h2) z2
  more := by
    by_cases hc : ∀ p q, p ∈ l → S p q → q ∈ l
    · have e : ∀ q, q ∈ l' ↔ q ∈ l := fun q => ⟨fun z => ((h q).mp z).elim id fun ⟨p, z1, z2⟩ => hc p q z1 z2, fun z => (h q).mpr (.inl z)⟩
      exact .inl fun p q hp hs => (e q).mpr (hc p q ((e p).mp hp) hs)
    · rcases L.more with z | ⟨D, d1, d2, d3⟩
      · exact absurd z hc
      · have : ∃ p q, p ∈ l ∧ S p q ∧ q ∉ l := Classical.byContradiction fun z => hc fun p q hp hs => Classical.byContradiction fun hq => z ⟨p, q, hp, hs, hq⟩
        obtain ⟨p, q, hp, hs, hq⟩ := this
        refine .inr ⟨D ++ [q], ?_, fun x hx => ?_, by rw [List.length_append, List.length_singleton]; omega⟩
        · rw [List.nodup_append]
          exact ⟨d1, by simp, fun x hx y hy => by rw [List.mem_singleton.mp hy]; exact fun e => hq (e ▸ d2 x hx)⟩
        · rcases List.mem_append.mp hx with hx | hx
          · exact (h x).mpr (.inl (d2 x hx))
          · rw [List.mem_singleton.mp hx]; exact (h q).mpr (.inr ⟨p, hp, hs⟩)
theorem Lap.done {n : Nat} {S : Nat → Nat → Prop} {A : Nat → Prop} {l : List Nat} (L : Lap n S A n l) (hS : ∀ p q, S p q → q < n) : ∀ p q, p ∈ l → S p q → q ∈ l := by
  rcases L.more with z | ⟨D, d1, d2, d3⟩
  · exact z
  · intro p q _ hs
    have hq := hS p q hs
    apply d2
    refine Classical.byContradiction fun hn => ?_
    have := nodup_below n (D ++ [q]) (by
      rw [List.nodup_append]
      exact ⟨d1, by simp, fun x hx y hy => by rw [List.mem_singleton.mp hy]; exact fun e => hn (e ▸ hx)⟩) (fun x hx => by
      rcases List.mem_append.mp hx with hx | hx
      · exact L.lt x (d2 x hx)
      · rw [List.mem_singleton.mp hx]; exact hq)
    rw [List.length_append, List.length_singleton] at this
    omega
theorem rch_lap {m : Mach} (ok : MOk m) {l : List Nat} (L : Lap m.1 (fun p q => ∃ c, (p, c, q) ∈ m.2.2) (· = 0) m.1 l) (q : Nat) : q ∈ l ↔ Rch (stepRows m.1 m.2.2) [0] q := by
  constructor
  · intro h
    refine (L.snd q h (fun q => q < m.1 ∧ Rch (stepRows m.1 m.2.2) [0] q) (fun q e => ?_) fun p q hp ⟨c, hs⟩ => ?_).2
    · subst e; exact ⟨ok.pos, .beg (by simp)⟩
    · obtain ⟨row, h1, h2⟩ := (stepRows_ed hp.1).mpr hs
      exact ⟨(ok.st _ hs).2, .step hp.2 h1 h2⟩
  · intro h
    induction h with
    | beg h => rw [List.mem_singleton.mp h]; exact L.beg 0 rfl
    | @step n t c row _ h1 h2 ih =>
      have hn := L.lt n ih
      exact L.done (fun p q ⟨c, hs⟩ => (ok.st _ hs).2) n t ih ⟨c, (stepRows_ed hn).mp ⟨row, h1, h2⟩⟩
theorem bch_lap {m : Mach} (ok : MOk m) {l : List Nat} (L : Lap m.1 (fun p q => ∃ c, (q, c, p) ∈ m.2.2) (· ∈ m.2.1) m.1 l) (q : Nat) (hq : q < m.1) : q ∈ l ↔ Bch (stepRows m.1 m.2.2) m.2.1 q := by
  constructor
  · intro h
    refine (L.snd q h (fun q => q < m.1 ∧ Bch (stepRows m.1 m.2.2) m.2.1 q) (fun q e => ⟨ok.ends q e, .fin e⟩) fun p q hp ⟨c, hs⟩ => ?_).2
    have h1 := (ok.st _ hs).1
    exact ⟨h1, .step ((stepRows_ed h1).mpr hs) hp.2⟩
  · intro h
    induction h with
    | fin h => exact L.beg _ h
    | @step n t c hE _ ih =>
      have hs := (stepRows_ed hq).mp hE
      exact L.done (fun p q ⟨c, hs⟩ => (ok.st _ hs).1) t n (ih (ok.st _ hs).2) ⟨c, hs⟩
/-- a machine as small as the law makes it -/
structure MSm (m : Mach) : Prop where
  a : m.1 + m.2.2.length < 60
  b : m.2.1.length + m.2.2.length < 60
def spLive : Sp := fun vs H Q _ => ∃ (m : Mach) (v1 : V), vs = [v1] ∧ rMach H v1 m ∧ MOk m ∧ MSm m ∧ ∀ (v : V) (H' : Hp) (l : List Nat), Fe H H' → rL rN H' v l → (∀ q, q ∈ l ↔ Live m q) → l.length ≤ 60 → Q v H'
theorem lmap (l : List Nat) : (l.map fun n : Nat => (n : Int)).map V.int = l.map vN := by rw [List.map_map]; rfl
abbrev St3 := Nat × Nat × Nat
def fm (f g : St3 → Nat) (sts : List St3) (l : List Nat) : List Nat := (sts.filter fun s => decide (f s ∈ l)).map g
theorem fm_succ (f g : St3 → Nat) (sts : List St3) (l : List Nat) (i : Nat) (s : St3) (h : sts[i]? = some s) : fm f g (sts.take (i + 1)) l = fm f g (sts.take i) l ++ (if f s ∈ l then [g s] else []) := by
  unfold fm
  rw [List.take_add_one, h, List.filter_append, List.map_append]
  refine congrArg (fun z => List.map g (List.filter (fun s => decide (f s ∈ l)) (List.take i sts)) ++ z) ?_
  show List.map _ (List.filter _ [s]) = _
  rw [List.filter_cons]
  by_cases q : f s ∈ l
  · rw [if_pos q, if_pos (decide_eq_true q)]; rfl
  · rw [if_neg q, if_neg (fun z => q (of_decide_eq_true z))]; rfl
theorem fm_mem {f g : St3 → Nat} {sts : List St3} {l : List Nat} {p : Nat} : p ∈ fm f g sts l ↔ ∃ s, s ∈ sts ∧ f s ∈ l ∧ g s = p := by
  unfold fm
  rw [List.mem_map]
  constructor
  · rintro ⟨s, h1, rfl⟩
    obtain ⟨h2, h3⟩ := List.mem_filter.mp h1
    exact ⟨s, h2, of_decide_eq_true h3, rfl⟩
  · rintro ⟨s, h1, h2, h3⟩
    exact ⟨s, List.mem_filter.mpr ⟨h1, decide_eq_true h2⟩, h3⟩
theorem fm_len (f g : St3 → Nat) (sts : List St3) (l : List Nat) : (fm f g sts l).length ≤ sts.length := by
  unfold fm
  rw [List.length_map]
  exact List.length_filter_le _ _
section
variable {P : Program} {w : World} {K : PySem.W.Frag} {g : Str → Option Value} {base : Heap}
theorem asc_nat {l' : List Nat} (h : (l'.map fun n : Nat => (n : Int)).Pairwise (· < ·)) : l'.Nodup := by
  rw [List.pairwise_map] at h
  exact List.nodup_iff_pairwise_ne.mpr (h.imp fun z => by omega)
end
end Fm
namespace Fm
open PySem L2
/-- what is hoped, by whole operations -/
def HopeW (b : Book) (m : Mach) (t : List Nat) (c : Nat) : Prop := (∃ q, Live m q ∧ Wh b m t 0 t.length q c) ∨
  ∃ (pl q c' : Nat) (r : List Nat) (d : Nat), pl < t.length ∧ Wh b m t 0 pl q c' ∧ t.length - pl < r.length ∧ r.take (t.length - pl) = t.drop pl ∧ (∃ p, OpS b m r d q p ∧ Live m p) ∧ c = c' + d
def spHopeW : Sp := fun vs H Q _ => ∃ (b : Book) (m : Mach) (t : List Nat) (v1 v2 : V), vs = [v1, v2, .str ⟨t.toArray⟩] ∧ rBook H v1 b ∧ rMach H v2 m ∧ POk b m ∧ MSm m ∧ t.length ≤ 1000 ∧ ∀ H', Fe H H' → Q (oV (least (HopeW b m t))) H'
theorem cut_to (l : List Nat) (k : Nat) (h : k ≤ l.length) : cutS ⟨l.toArray⟩ none (some (k : Int)) = ⟨(l.take k).toArray⟩ := by
  unfold cutS
  rw [slen, HT.sIx_nat]
  show (⟨((l.drop 0).take (min k l.length - 0)).toArray⟩ : Str) = _
  rw [Nat.min_eq_left h]; rfl
theorem atI_last {xs : List V} {v : V} (h : xs[xs.length - 1]? = some v) : atI xs (-1) = some v := by
  have hl := (List.getElem?_eq_some_iff.mp h).1
  unfold atI
  have : ixN xs.length (-1) = some (xs.length - 1) := by
    unfold ixN
    rw [if_neg (by omega), if_pos (by omega)]
    congr 1
    omega
  rw [this]
  exact h
def fnd (last : CRow) (l : List Nat) : List Nat := l.filterMap fun q => (last[q]?).getD none
theorem fnd_mem {last : CRow} {l : List Nat} {c : Nat} : c ∈ fnd last l ↔ ∃ q, q ∈ l ∧ last[q]? = some (some c) := by
  unfold fnd
  rw [List.mem_filterMap]
  refine exists_congr fun q => and_congr_right fun _ => ?_
  cases last[q]? with
  | none => simp
  | some o => simp
theorem fnd_succ {last : CRow} {l : List Nat} {i q : Nat} {o : Option Nat} (h : l[i]? = some q) (ho : last[q]? = some o) : fnd last (l.take (i + 1)) = fnd last (l.take i) ++ o.toList := by
  unfold fnd
  rw [List.take_add_one, h, List.filterMap_append]
  refine congrArg (fun z => List.filterMap (fun q => (last[q]?).getD none) (List.take i l) ++ z) ?_
  show List.filterMap _ [q] = _
  rw [List.filterMap_cons, ho]
  cases o <;> rfl
/-- what an operation that reads beyond the end brings -/
def Far (rows : List CRow) (t lv : List Nat) (op : Op) (pl q c : Nat) : Prop := ∃ (row : CRow) (c' : Nat) (tr : List Nat) (p : Nat), rows[pl]? = some row ∧ row[q]? = some (some c') ∧ t.length - pl < op.1.length ∧ op.1.take (t.length - pl) = t.drop pl ∧ op.2.2.2[q]? = some tr ∧ p ∈ tr ∧ p ∈ lv ∧ c = c' + op.2.2.1
def FarI (rows : List CRow) (t lv : List Nat) (ops : List Op) (n i j k c : Nat) : Prop := ∃ (pl i2 q : Nat) (op : Op), pl < t.length ∧ q < n ∧ (pl < i ∨ (pl = i ∧ (i2 < j ∨ (i2 = j ∧ q < k)))) ∧ ops[i2]? = some op ∧ Far rows t lv op pl q c
structure FI (rows : List CRow) (t lv : List Nat) (ops : List Op) (last : CRow) (n i j k : Nat) (fs : List Nat) : Prop where
  mem : ∀ c, c ∈ fs ↔ (c ∈ fnd last lv ∨ FarI rows t lv ops n i j k c)
  len : fs.length ≤ 60 + i * (ops.length * n) + j * n + k
theorem FI.skip {rows : List CRow} {t lv : List Nat} {ops : List Op} {last : CRow} {n i j k i' j' k' : Nat} {fs : List Nat} (f : FI rows t lv ops last n i j k fs) (hl : 60 + i * (ops.length * n) + j * n + k ≤ 60 + i' * (ops.length * n) + j' * n + k')
    (h1 : ∀ pl i2 q, pl < t.length → q < n → i2 < ops.length → (pl < i ∨ (pl = i ∧ (i2 < j ∨ (i2 = j ∧ q < k)))) → (pl < i' ∨ (pl = i' ∧ (i2 < j' ∨ (i2 = j' ∧ q < k')))))
    (h2 : ∀ pl i2 q op c, pl < t.length → q < n → ops[i2]? = some op → (pl < i' ∨ (pl = i' ∧ (i2 < j' ∨ (i2 = j' ∧ q < k')))) → ¬ (pl < i ∨ (pl = i ∧ (i2 < j ∨ (i2 = j ∧ q < k)))) → ¬ Far rows t lv op pl q c) : FI rows t lv ops last n i' j' k' fs where
  len := Nat.le_trans f.len hl
  mem := fun c => by
    rw [f.mem c]
    refine or_congr Iff.rfl ⟨?_, ?_⟩
    · rintro ⟨pl, i2, q, op, a1, a2, a3, a4, a5⟩
      exact ⟨pl, i2, q, op, a1, a2, h1 pl i2 q a1 a2 (List.getElem?_eq_some_iff.mp a4).1 a3, a4, a5⟩
    · rintro ⟨pl, i2, q, op, a1, a2, a3, a4, a5⟩
      refine ⟨pl, i2, q, op, a1, a2, Classical.byContradiction fun z => h2 pl i2 q op c a1 a2 a4 a3 z a5, a4, a5⟩
theorem FI.add {rows : List CRow} {t lv : List Nat} {ops : List Op} {last : CRow} {n i j k : Nat} {fs : List Nat} (f : FI rows t lv ops last n i j k fs) (hi : i < t.length) (hk : k < n) {op : Op} (hop : ops[j]? = some op) {c : Nat} (h : ∀ c', Far rows t lv op i k c' ↔ c' = c) : FI rows t lv ops last n i j (k + 1) (fs ++ [c]) where
  len := by rw [List.length_append, List.length_singleton]; have := f.len; omega
  mem := fun c' => by
    rw [List.mem_append, List.mem_singleton, f.mem c']
    constructor
    · rintro ((z | ⟨pl, i2, q, op', a1, a2, a3, a4, a5⟩) | z)
      · exact .inl z
      · exact .inr ⟨pl, i2, q, op', a1, a2, by omega, a4, a5⟩
      · exact .inr ⟨i, j, k, op, hi, hk, by omega, hop, (h c').mpr z⟩
    · rintro (z | ⟨pl, i2, q, op', a1, a2, a3, a4, a5⟩)
      · exact .inl (.inl z)
      · by_cases e : pl = i ∧ i2 = j ∧ q = k
        · obtain ⟨rfl, rfl, rfl⟩ := e
          rw [hop] at a4; cases a4
          exact .inr ((h c').mp a5)
        · exact .inl (.inr ⟨pl, i2, q, op', a1, a2, by omega, a4, a5⟩)
section
variable {P : Program} {w : World} {K : PySem.W.Frag} {g : Str → Option Value} {base : Heap}
end
end Fm
/-! the plain law: sums over standings are sums over whole operations -/
namespace Fm
open PySem L2
theorem take_snoc {t u : List Nat} {x : Nat} (h : t.take (u ++ [x]).length = u ++ [x]) : t.take u.length = u ∧ t[u.length]? = some x := by
  rw [List.length_append, List.length_singleton, List.take_add_one] at h
  cases e : t[u.length]? with
  | none =>
    rw [e, Option.toList_none, List.append_nil] at h
    have := congrArg List.length h
    rw [List.length_append, List.length_singleton, List.length_take] at this
    omega
  | some y =>
    rw [e] at h
    have hl : u.length < t.length := (List.getElem?_eq_some_iff.mp e).1
    have := List.append_inj h (by rw [List.length_take]; omega)
    obtain ⟨h1, h2⟩ := this
    have h2 : [y] = [x] := h2
    injection h2 with h2 _
    exact ⟨h1, by rw [h2]⟩
theorem drop_take_of {t u : List Nat} {pl : Nat} (h : t.take u.length = u) (hp : pl ≤ u.length) : (t.drop pl).take (u.drop pl).length = u.drop pl := by
  conv => rhs; rw [← h]
  rw [List.drop_take, List.length_drop]
theorem drop_one {t : List Nat} {i x : Nat} (h : t[i]? = some x) : (t.drop i).take 1 = [x] := by
  obtain ⟨hl, e⟩ := List.getElem?_eq_some_iff.mp h
  rw [List.drop_eq_getElem_cons hl, e]; rfl
theorem rs_wh {b : Book} {m : Mach} (pok : POk b m) {u : List Nat} {s : Stg} {c : Nat} (h : Rs b m u s c) : ∀ t : List Nat, t.take u.length = u →
    (s.2 = [] → Wh b m t 0 u.length s.1 c) ∧ (s.2 ≠ [] → ∃ (pl q' c' : Nat) (r0 : List Nat) (d : Nat), pl < u.length ∧ Wh b m t 0 pl q' c' ∧ r0 = u.drop pl ++ s.2 ∧ OpS b m r0 d q' s.1 ∧ c = c' + d) := by
  induction h with
  | beg => exact fun t _ => ⟨fun _ => .beg, fun h => absurd rfl h⟩
  | @sil u s s' c d _ mv ih =>
    intro t ht
    obtain ⟨h1, h2, wr, h3, h4⟩ := mv
    exact ⟨fun _ => .sil ((ih t ht).1 h1) ⟨wr, List.mem_append_left _ h3, h4⟩, fun h => absurd h2 h⟩
  | @rea u s s' c d x _ mv ih =>
    intro t ht
    obtain ⟨ht1, ht2⟩ := take_snoc ht
    obtain ⟨i1, i2⟩ := ih t ht1
    have hl : (u ++ [x]).length = u.length + 1 := by rw [List.length_append, List.length_singleton]
    have one : (t.drop u.length).take 1 = [x] := drop_one ht2
    rcases mv with ⟨r, h1, rfl, rfl⟩ | ⟨h1, h2, h3, rfl⟩ | ⟨h1, rd, wr, h2, h3, h4⟩
    · obtain ⟨pl, q', c', r0, d', j1, j2, j3, j4, j5⟩ := i2 (by rw [h1]; exact fun z => nomatch z)
      have e0 : r0 = (u ++ [x]).drop pl ++ r := by
        rw [j3, h1, List.drop_append_of_le_length (by omega), List.append_assoc]; rfl
      constructor
      · intro hr
        have hr : r = [] := hr
        subst hr
        rw [List.append_nil] at e0
        have hm := drop_take_of ht (show pl ≤ (u ++ [x]).length by omega)
        rw [← e0] at hm
        have hrl : r0.length = (u ++ [x]).length - pl := by rw [e0, List.length_drop]
        have := Wh.rd j2 (fun z => by rw [z] at hrl; simp at hrl; omega) j4 hm
        rw [show pl + r0.length = (u ++ [x]).length by omega] at this
        rw [Nat.add_zero, j5]
        exact this
      · intro _
        exact ⟨pl, q', c', r0, d', by omega, j2, e0, j4, by omega⟩
    · refine ⟨fun _ => ?_, fun h => absurd h2 h⟩
      have ho : OpS b m [x] 0 s.1 s'.1 := ⟨[x], List.mem_append_right _ (List.mem_map.mpr ⟨x, pok.ms _ h3, rfl⟩), ⟨s'.1, h3, rfl⟩⟩
      have := Wh.rd (r := [x]) (i1 h1) (fun z => nomatch z) ho one
      rw [hl]
      exact this
    · constructor
      · intro hr
        rw [h3] at hr
        subst hr
        have := Wh.rd (r := [x]) (i1 h1) (fun z => nomatch z) ⟨wr, List.mem_append_left _ h2, h4⟩ one
        rw [hl]
        exact this
      · intro _
        exact ⟨u.length, s.1, c, x :: rd, d, by omega, i1 h1, by rw [h3, List.drop_left]; rfl, ⟨wr, List.mem_append_left _ h2, h4⟩, rfl⟩
theorem rs_rest {b : Book} {m : Mach} : ∀ (a : List Nat) {u r : List Nat} {p c : Nat}, Rs b m u (p, a ++ r) c → Rs b m (u ++ a) (p, r) c
  | [], u, r, p, c, h => by rw [List.append_nil]; exact h
  | x :: a, u, r, p, c, h => by
    have h1 : Rs b m (u ++ [x]) (p, a ++ r) (c + 0) := .rea h (.inl ⟨a ++ r, rfl, rfl, rfl⟩)
    have h2 := rs_rest a h1
    rw [List.append_assoc, Nat.add_zero] at h2
    exact h2
/-- an operation that reads something: a letter that stays, or an edit -/
theorem ops_cases {b : Book} {m : Mach} {r : List Nat} {d q p : Nat} (h : OpS b m r d q p) : (∃ x, r = [x] ∧ d = 0 ∧ Em m q x p) ∨ ∃ w, (r, w, d) ∈ b.2 ∧ Lead (Em m) w q p := by
  obtain ⟨w, h1, h2⟩ := h
  rcases List.mem_append.mp h1 with h1 | h1
  · exact .inr ⟨w, h1, h2⟩
  · obtain ⟨x, _, e⟩ := List.mem_map.mp h1
    injection e with e1 e
    injection e with e2 e3
    subst e1 e2 e3
    obtain ⟨r, h3, h4⟩ := h2
    have h4 : r = p := h4
    subst h4
    exact .inl ⟨x, rfl, rfl, h3⟩
theorem take_more {t r : List Nat} {pl : Nat} (h : (t.drop pl).take r.length = r) : t.take (pl + r.length) = t.take pl ++ r := by
  rw [List.take_add, h]
/-- the beginning of an operation's reading -/
theorem rs_begin {b : Book} {m : Mach} {u : List Nat} {q p c d : Nat} {a r : List Nat} (ha : a ≠ []) (h : Rs b m u (q, []) c) (o : OpS b m (a ++ r) d q p) : Rs b m (u ++ a) (p, r) (c + d) := by
  cases a with
  | nil => exact absurd rfl ha
  | cons x a =>
    rcases ops_cases o with ⟨y, e, rfl, h3⟩ | ⟨w, h1, h2⟩
    · have e : x :: (a ++ r) = [y] := e
      injection e with e1 e2
      subst e1
      obtain ⟨rfl, rfl⟩ := List.append_eq_nil_iff.mp e2
      exact .rea h (.inr (.inl ⟨rfl, rfl, h3, rfl⟩))
    · have h3 : Rs b m (u ++ [x]) (p, a ++ r) (c + d) := .rea h (.inr (.inr ⟨rfl, a ++ r, w, h1, rfl, h2⟩))
      have h4 := rs_rest a h3
      rw [List.append_assoc] at h4
      exact h4
theorem wh_rs {b : Book} {m : Mach} {t : List Nat} {pl q c : Nat} (h : Wh b m t 0 pl q c) : Rs b m (t.take pl) (q, []) c := by
  induction h with
  | beg => exact .beg
  | sil _ o ih =>
    rcases ops_cases o with ⟨y, e, _⟩ | ⟨w, h1, h2⟩
    · cases e
    · exact .sil ih ⟨rfl, rfl, w, h1, h2⟩
  | @rd pl q c d p r _ hr o ht ih =>
    rw [take_more ht]
    exact rs_begin (r := []) hr ih (by rw [List.append_nil]; exact o)
/-- what is hoped, by standings and by whole operations -/
theorem hope_same {b : Book} {m : Mach} (pok : POk b m) (t : List Nat) : least (HopeW b m t) = least (Hope b m t) := by
  refine least_congr fun c => ⟨?_, ?_⟩
  · rintro (⟨q, h1, h2⟩ | ⟨pl, q, c', r, d, h1, h2, h3, h4, ⟨p, h5, h6⟩, rfl⟩)
    · have := wh_rs h2
      rw [List.take_length] at this
      exact ⟨(q, []), h1, this⟩
    · have e : r = t.drop pl ++ r.drop (t.length - pl) := by
        conv => lhs; rw [← List.take_append_drop (t.length - pl) r, h4]
      have hne : t.drop pl ≠ [] := fun z => by
        have := congrArg List.length z
        rw [List.length_drop] at this
        simp at this
        omega
      have := rs_begin (r := r.drop (t.length - pl)) hne (wh_rs h2) (by rw [← e]; exact h5)
      rw [List.take_append_drop] at this
      exact ⟨(p, r.drop (t.length - pl)), h6, this⟩
  · rintro ⟨s, h1, h2⟩
    obtain ⟨i1, i2⟩ := rs_wh pok h2 t (List.take_length)
    by_cases hs : s.2 = []
    · exact .inl ⟨s.1, h1, i1 hs⟩
    · obtain ⟨pl, q', c', r0, d, j1, j2, j3, j4, j5⟩ := i2 hs
      have hl : r0.length = (t.length - pl) + s.2.length := by rw [j3, List.length_append, List.length_drop]
      have hsl : 0 < s.2.length := List.length_pos_iff.mpr hs
      refine .inr ⟨pl, q', c', r0, d, j1, j2, by omega, ?_, ⟨s.1, j4, h1⟩, j5⟩
      rw [j3, List.take_left' (by rw [List.length_drop])]
end Fm
namespace Fm
open PySem L2
abbrev BKV := List (List Key × V)
def eK (r w : List Nat) : List Key := [kS r, kS w]
/-- the edits so far, over the letters ls -/
def DB (ls : List Nat) (kvs : BKV) : Prop := ∀ kv ∈ kvs, ∃ (r w : List Nat) (c : Nat), kv = (eK r w, vN c) ∧ r.length ≤ 3 ∧ w.length ≤ 3 ∧ ∀ x ∈ r, x ∈ ls
theorem putK_mem {κ : Type} [DecidableEq κ] {kvs : List (κ × V)} {k : κ} {v : V} {kv : κ × V} (h : kv ∈ putK kvs k v) : kv = (k, v) ∨ kv ∈ kvs := by
  unfold putK at h
  split at h
  · obtain ⟨x, hx, e⟩ := List.mem_map.mp h
    split at e
    · rename_i q
      subst e
      exact .inl (Prod.ext q rfl)
    · subst e; exact .inr hx
  · rcases List.mem_append.mp h with h | h
    · exact .inr h
    · exact .inl (List.mem_singleton.mp h)
theorem DB.put {ls : List Nat} {kvs : BKV} (d : DB ls kvs) {r w : List Nat} (c : Nat) (h1 : r.length ≤ 3) (h2 : w.length ≤ 3) (h3 : ∀ x ∈ r, x ∈ ls) : DB ls (putK kvs (eK r w) (vN c)) := fun kv h => by
  rcases putK_mem h with rfl | h
  · exact ⟨r, w, c, rfl, h1, h2, h3⟩
  · exact d kv h
theorem valV_mem {κ : Type} [DecidableEq κ] : ∀ {kvs : List (κ × V)} {k : κ} {v : V}, (k, v) ∈ kvs → ∃ v', valV kvs k = some v' ∧ (k, v') ∈ kvs
  | p :: kvs, k, v, h => by
    by_cases e : p.1 = k
    · exact ⟨p.2, valV_pos e, by rw [← e]; exact List.mem_cons_self⟩
    · rcases List.mem_cons.mp h with h | h
      · exact absurd (by rw [← h]) e
      · obtain ⟨v', h1, h2⟩ := valV_mem h
        exact ⟨v', by rw [valV_neg e]; exact h1, List.mem_cons_of_mem _ h2⟩
/-- the dict at D while the book is made -/
structure BS (p g : Addr) (H0 H : Hp) (D : Addr) (ls : List Nat) (k : Nat) : Prop where
  fx : Fx [p, g] H0 H
  pl : Pl H p g
  nD : H0 D = none
  nD2 : D ∉ [p, g]
  kv : ∃ kvs, H D = some (.dT kvs) ∧ DB ls kvs ∧ kvs.length ≤ k
theorem BS.f {p g : Addr} {H0 H H' : Hp} {D : Addr} {ls : List Nat} {k : Nat} (b : BS p g H0 H D ls k) (f : Fx [p, g] H H') (q : Pl H' p g) : BS p g H0 H' D ls k := by
  obtain ⟨kvs, h1, h2⟩ := b.kv
  exact ⟨b.fx.trans f, q, b.nD, b.nD2, kvs, f.keep _ _ b.nD2 h1, h2⟩
theorem BS.fe {p g : Addr} {H0 H H' : Hp} {D : Addr} {ls : List Nat} {k : Nat} (b : BS p g H0 H D ls k) (f : Fe H H') : BS p g H0 H' D ls k := b.f f.to (b.pl.keep f)
theorem BS.wk {p g : Addr} {H0 H : Hp} {D : Addr} {ls : List Nat} {k k' : Nat} (b : BS p g H0 H D ls k) (h : k ≤ k') : BS p g H0 H D ls k' := by
  obtain ⟨kvs, h1, h2, h3⟩ := b.kv
  exact ⟨b.fx, b.pl, b.nD, b.nD2, kvs, h1, h2, Nat.le_trans h3 h⟩
theorem BS.put {p g : Addr} {H0 H : Hp} {D U : Addr} {ls : List Nat} {k : Nat} (b : BS p g H0 H D ls k) (hk : k < 1000) {r w : List Nat} (hU : H U = some (.tup ((eK r w).map kV))) (c : Nat) (h1 : r.length ≤ 3) (h2 : w.length ≤ 3) (h3 : ∀ x ∈ r, x ∈ ls) :
    ∃ H', DPut H D (.ref U) (vN c) H' ∧ BS p g H0 H' D ls (k + 1) := by
  obtain ⟨kvs, e1, e2, e3⟩ := b.kv
  refine ⟨_, DPut.t e1 hU (by rw [sizeLine_eq]; omega), b.fx.mu b.nD, b.pl.put b.nD2, b.nD, b.nD2, _, upd_same, e2.put c h1 h2 h3, ?_⟩
  have := length_putK kvs (eK r w) (vN c)
  omega
def spBook : Sp := fun vs H Q _ => ∃ (p g : Addr) (ls : List Nat) (n : Nat), vs = [.ref p, .str ⟨ls.toArray⟩, .int (n : Int)] ∧ Pl H p g ∧ ls ≠ [] ∧ ls.length ≤ 3 ∧ n ≤ 10 ∧
  ∀ (v : V) (es : List (List Nat × List Nat × Nat)) (H' : Hp), Fx [p, g] H H' → Pl H' p g → rBook H' v (ls, es) → BOk (ls, es) → es.length ≤ 30 → Q v H'
section
variable {P : Program} {w : World} {K : PySem.W.Frag} {g : Str → Option Value} {base : Heap}
end
end Fm
namespace Fm
open PySem L2
theorem Fx.k_t {M : List Addr} {H H' H'' : Hp} (g : Fe H' H'') (f : Fx M H H') {t : Addr} {xs : List V} (h : H t = some (.tup xs)) : H'' t = some (.tup xs) := g.k (f.tups _ _ h)
theorem v1 (r : Nat) : V.int (1 + (r : Int)) = vN (1 + r) := by show _ = V.int _; rw [Int.natCast_add]; rfl
theorem DB.merge {ls : List Nat} : ∀ (more : BKV) (kvs : BKV), DB ls kvs → DB ls more → DB ls (mergeT kvs more)
  | [], _, h, _ => h
  | x :: more, kvs, h, hm => DB.merge more (putK kvs x.1 x.2) (fun kv hkv => by
      rcases putK_mem hkv with e | e
      · exact hm kv (by rw [e]; exact List.mem_cons_self)
      · exact h kv e) fun kv hkv => hm kv (List.mem_cons_of_mem _ hkv)
theorem BS.put2 {p g : Addr} {H0 H : Hp} {D U : Addr} {ls : List Nat} {k : Nat} (b : BS p g H0 H D ls k) (hk : k < 1000) {r w : List Nat} (hU : H U = some (.tup ((eK r w).map kV))) (c : Nat) (h1 : r.length ≤ 3) (h2 : w.length ≤ 3) (h3 : ∀ x ∈ r, x ∈ ls) :
    ∃ kvs, DPut H D (.ref U) (vN c) (upd H D (.dT kvs)) ∧ BS p g H0 (upd H D (.dT kvs)) D ls (k + 1) := by
  obtain ⟨kvs, e1, e2, e3⟩ := b.kv
  refine ⟨_, DPut.t e1 hU (by rw [sizeLine_eq]; omega), b.fx.mu b.nD, b.pl.put b.nD2, b.nD, b.nD2, _, upd_same, e2.put c h1 h2 h3, ?_⟩
  have := length_putK kvs (eK r w) (vN c)
  omega
theorem s2_ (a b : Nat) : (⟨#[a]⟩ : Str) ++ ⟨#[b]⟩ = ⟨[a, b].toArray⟩ := SX.S_cat [a] [b]
theorem s3_ (a b c : Nat) : (⟨#[a]⟩ : Str) ++ ⟨#[b]⟩ ++ ⟨#[c]⟩ = ⟨[a, b, c].toArray⟩ := by rw [s2_]; exact SX.S_cat [a, b] [c]
theorem sz2 (a b : Nat) : (⟨#[a]⟩ : Str).length + (⟨#[b]⟩ : Str).length ≤ sizeLine := by show 1 + 1 ≤ sizeLine; decide
theorem sz3 (a b c : Nat) : ((⟨#[a]⟩ : Str) ++ ⟨#[b]⟩).length + (⟨#[c]⟩ : Str).length ≤ sizeLine := by rw [s2_]; show 2 + 1 ≤ sizeLine; decide
def spFull : Sp := fun vs H Q _ => ∃ (p g : Addr) (a b : Nat), vs = [.ref p, s1 a, s1 b] ∧ Pl H p g ∧ ∀ (v : V) (es : List (List Nat × List Nat × Nat)) (H' : Hp), Fx [p, g] H H' → Pl H' p g → rBook H' v ([a, b], es) → BOk ([a, b], es) → es.length ≤ 30 → Q v H'
section
variable {P : Program} {w : World} {K : PySem.W.Frag} {g : Str → Option Value} {base : Heap}
end
end Fm
namespace Fm
open PySem L2
/-- None, an int, a text -/
inductive Sc : V → Prop
  | non : Sc .non
  | int (i : Int) : Sc (.int i)
  | str (x : Str) : Sc (.str x)
def spSame : Sp := fun vs H Q _ => ∃ x y : V, vs = [x, y] ∧ Sc x ∧ Sc y ∧ Q (.bl (decide (x = y))) H
theorem sc_oV (o : Option Nat) : Sc (oV o) := by
  cases o with
  | none => exact .non
  | some c => exact .int _
theorem pss_never {X : Cx} {ss : List Stmt} : PSs X ss (fun _ _ _ => False) := ⟨fun _ _ _ _ _ _ h => h.elim⟩
def tyOf : V → Value
  | .non => .type "NoneType"
  | .int _ => .type "int"
  | _ => .type "str"
theorem Sc.ty {x : V} (h : Sc x) (K : PySem.W.Frag) (H : Hp) : TyX K H x (tyOf x) := by
  cases h with
  | non => exact .base .non
  | int i => exact .base (.int i)
  | str y => exact .base (.str y)
section
variable {P : Program} {w : World} {K : PySem.W.Frag} {g : Str → Option Value} {base : Heap}
theorem ok_law_same (T : Txt K g) : FnOk P w K g base CX0 1 T.d_law_same.f T.d_law_same.fd P_law_same spSame := by
  refine T.d_law_same.F.ok sc_law_same (fun vs H Q E h => ?_) (fun cdv A outer s H vs Q E hr h => ?_)
  · obtain ⟨_, _, rfl, _⟩ := h
    rfl
  · obtain ⟨x, y, rfl, hx, hy, kk⟩ := h
    have hu := hu_of hr
    refine ⟨_, (pss_cons (ps_if (pt_val (pe_callB call_isi (by rfl) T.z_isinstance (by decide +kernel) (pa_cons (pv 1) (pa_cons (pe_bltn (v := .ty "tuple") (by rfl) T.z_tuple (by decide +kernel) rfl) pa_nil))))
      pss_never
      pss_nil)
    (pss_cons (ps_if (pt_cmpR op_isN (pv 1) pe_non (nomark _))
      (pss_one (ps_ret (pe_cmpR op_isN (pv 0) pe_non (nomark _))))
      pss_nil)
    (pss_cons (ps_if (pt_val (pe_callB call_isi (by rfl) T.z_isinstance (by decide +kernel) (pa_cons (pv 1) (pa_cons (pe_bltn (v := .ty "int") (by rfl) T.z_int (by decide +kernel) rfl) pa_nil))))
      (pss_one (ps_ret (pe_and (pe_callB call_isi (by rfl) T.z_isinstance (by decide +kernel) (pa_cons (pv 0) (pa_cons (pe_bltn (v := .ty "int") (by rfl) T.z_int (by decide +kernel) rfl) pa_nil))) (pe_and (pe_not (pe_callB call_isi (by rfl) T.z_isinstance (by decide +kernel) (pa_cons (pv 0) (pa_cons (pe_bltn (v := .ty "bool") (by rfl) T.z_bool (by decide +kernel) rfl) pa_nil)))) (pe_one (pe_cmpR op_eq (pv 0) (pv 1) (nomark _)))))))
      pss_nil)
    (pss_one (ps_ret (pe_and (pe_callB call_isi (by rfl) T.z_isinstance (by decide +kernel) (pa_cons (pv 0) (pa_cons (pe_bltn (v := .ty "str") (by rfl) T.z_str (by decide +kernel) rfl) pa_nil))) (pe_and (pe_callB call_isi (by rfl) T.z_isinstance (by decide +kernel) (pa_cons (pv 1) (pa_cons (pe_bltn (v := .ty "str") (by rfl) T.z_str (by decide +kernel) rfl) pa_nil))) (pe_one (pe_cmpR op_eq (pv 0) (pv 1) (nomark _)))))))))), ?_⟩
    have nt : PySem.W.kitOne K (tyOf y) (.type "tuple") = some false := by
      cases hy <;> rfl
    refine ⟨_, rfl, _, _, _, _, _, rfl, .ty "tuple", hy.ty K H, nt, _, rfl, iteF ?_⟩
    refine ⟨_, rfl, rfl, _, rfl, ?_⟩
    have ti : ∀ {z : V}, Sc z → PySem.W.kitOne K (tyOf z) (.type "int") = some (match z with | .int _ => true | _ => false) := fun h => by cases h <;> rfl
    have tb : ∀ {z : V}, Sc z → PySem.W.kitOne K (tyOf z) (.type "bool") = some false := fun h => by cases h <;> rfl
    have ts : ∀ {z : V}, Sc z → PySem.W.kitOne K (tyOf z) (.type "str") = some (match z with | .str _ => true | _ => false) := fun h => by cases h <;> rfl
    cases hy with
    | non => exact iteT ⟨_, rfl, rfl, kk⟩
    | int i =>
      refine iteF ⟨_, rfl, _, _, _, _, _, rfl, .ty "int", (Sc.int i).ty K H, ti (.int i), _, rfl, iteT ?_⟩
      refine ⟨_, rfl, _, _, _, _, _, rfl, .ty "int", hx.ty K H, ti hx, _, rfl, ?_⟩
      cases hx with
      | non => exact iteF kk
      | str y => exact iteF kk
      | int j => exact iteT ⟨_, rfl, _, _, _, _, _, rfl, .ty "bool", (Sc.int j).ty K H, tb (.int j), _, rfl, _, rfl, iteT ⟨_, rfl, _, rfl, rfl, kk⟩⟩
    | str y =>
      refine iteF ⟨_, rfl, _, _, _, _, _, rfl, .ty "int", (Sc.str y).ty K H, ti (.str y), _, rfl, iteF ?_⟩
      refine ⟨_, rfl, _, _, _, _, _, rfl, .ty "str", hx.ty K H, ts hx, _, rfl, ?_⟩
      cases hx with
      | non => exact iteF kk
      | int j => exact iteF kk
      | str x => exact iteT ⟨_, rfl, _, _, _, _, _, rfl, .ty "str", (Sc.str y).ty K H, ts (.str y), _, rfl, iteT ⟨_, rfl, _, rfl, rfl, kk⟩⟩
end
end Fm
/-! the same data, tuples by depth -/
namespace Fm
open PySem L2
abbrev RSm := Hp → V → V → Prop
def spEq (R : RSm) : Sp := fun vs H Q _ => ∃ x y : V, vs = [x, y] ∧ R H x y ∧ ∀ H', Fe H H' → Q (.bl true) H'
def MoS (R : RSm) : Prop := ∀ H H' x y, Fe H H' → R H x y → R H' x y
def sSc : RSm := fun _ x y => Sc x ∧ x = y
def sTu (R : RSm) : RSm := fun H x y => ∃ a b xs ys, x = .ref a ∧ y = .ref b ∧ H a = some (.tup xs) ∧ H b = some (.tup ys) ∧ Paired (R H) xs ys
theorem mo_sc : MoS sSc := fun _ _ _ _ _ h => h
theorem mo_tu {R : RSm} (h : MoS R) : MoS (sTu R) := fun H H' x y f ⟨a, b, xs, ys, e1, e2, h1, h2, h3⟩ => ⟨a, b, xs, ys, e1, e2, f.k h1, f.k h2, L2.Paired.mapP h3 fun _ _ q => h _ _ _ _ f q⟩
section
variable {P : Program} {w : World} {K : PySem.W.Frag} {g : Str → Option Value} {base : Heap}
theorem same_ok0 (T : Txt K g) : FnOk P w K g base CX0 1 T.d_law_same.f T.d_law_same.fd P_law_same (spEq sSc) :=
  (ok_law_same T).imp fun vs H Q E ⟨x, y, e, ⟨h, e2⟩, k⟩ => ⟨x, y, e, h, e2 ▸ h, by
    rw [decide_eq_true e2]; exact k H (Fx.refl _ _)⟩
theorem same_step (T : Txt K g) {R : RSm} {k : Nat} (hR : MoS R) (ih : FnOk P w K g base CX0 k T.d_law_same.f T.d_law_same.fd P_law_same (spEq R)) : FnOk P w K g base CX0 (k + 1) T.d_law_same.f T.d_law_same.fd P_law_same (spEq (sTu R)) := by
  refine T.d_law_same.F.ok sc_law_same (fun vs H Q E h => ?_) (fun cdv A outer s H vs Q E hr h => ?_)
  · obtain ⟨_, _, rfl, _⟩ := h
    rfl
  · obtain ⟨x, y, rfl, ⟨a, b, xs, ys, rfl, rfl, ha, hb, hp⟩, kk⟩ := h
    have hu := hu_of hr
    refine ⟨_, (pss_cons (ps_if (pt_val (pe_callB call_isi (by rfl) T.z_isinstance (by decide +kernel) (pa_cons (pv 1) (pa_cons (pe_bltn (v := .ty "tuple") (by rfl) T.z_tuple (by decide +kernel) rfl) pa_nil))))
      (pss_cons (ps_if (PW.pt (pw_or (pt_not (pt_val (pe_callB call_isi (by rfl) T.z_isinstance (by decide +kernel) (pa_cons (pv 0) (pa_cons (pe_bltn (v := .ty "tuple") (by rfl) T.z_tuple (by decide +kernel) rfl) pa_nil))))) (pw_or1 (pt_cmpR op_ne (pe_callB (kc_len (K := K) rfl) (by rfl) T.z_len PySem.boot_len (pa_cons (pv 0) pa_nil)) (pe_callB (kc_len (K := K) rfl) (by rfl) T.z_len PySem.boot_len (pa_cons (pv 1) pa_nil)) (nomark _)))))
        (pss_one (ps_ret pe_bl))
        pss_nil)
      (pss_cons (ps_for PassesOwn.never rfl (ki_zipA (K := K) rfl rfl T.z_zip (pa_cons (pv 0) (pa_cons (pv 1) pa_nil))) (kg_tup (K := K) 2 rfl rfl (pgs_cons (pg_name (i := 2) sc_law_same.nd rfl (by first | exact Or.inl rfl | exact Or.inr rfl)) (pgs_cons (pg_name (i := 3) sc_law_same.nd rfl (by first | exact Or.inl rfl | exact Or.inr rfl)) pgs_nil)))
        (pss_one (ps_if (pt_not (pt_val (pe_call ih (hr.mono (Nat.le_refl _)) rfl T.d_law_same.mg T.d_law_same.kp T.d_law_same.b .nil pass0 (pa_cons (pv 2) (pa_cons (pv 3) pa_nil)))))
          (pss_one (ps_ret pe_bl))
          pss_nil)))
      (pss_one (ps_ret pe_bl))))
      pss_nil)
    (pss_cons (ps_if (pt_cmpR op_isN (pv 1) pe_non (nomark _))
      (pss_one (ps_ret (pe_cmpR op_isN (pv 0) pe_non (nomark _))))
      pss_nil)
    (pss_cons (ps_if (pt_val (pe_callB call_isi (by rfl) T.z_isinstance (by decide +kernel) (pa_cons (pv 1) (pa_cons (pe_bltn (v := .ty "int") (by rfl) T.z_int (by decide +kernel) rfl) pa_nil))))
      (pss_one (ps_ret (pe_and (pe_callB call_isi (by rfl) T.z_isinstance (by decide +kernel) (pa_cons (pv 0) (pa_cons (pe_bltn (v := .ty "int") (by rfl) T.z_int (by decide +kernel) rfl) pa_nil))) (pe_and (pe_not (pe_callB call_isi (by rfl) T.z_isinstance (by decide +kernel) (pa_cons (pv 0) (pa_cons (pe_bltn (v := .ty "bool") (by rfl) T.z_bool (by decide +kernel) rfl) pa_nil)))) (pe_one (pe_cmpR op_eq (pv 0) (pv 1) (nomark _)))))))
      pss_nil)
    (pss_one (ps_ret (pe_and (pe_callB call_isi (by rfl) T.z_isinstance (by decide +kernel) (pa_cons (pv 0) (pa_cons (pe_bltn (v := .ty "str") (by rfl) T.z_str (by decide +kernel) rfl) pa_nil))) (pe_and (pe_callB call_isi (by rfl) T.z_isinstance (by decide +kernel) (pa_cons (pv 1) (pa_cons (pe_bltn (v := .ty "str") (by rfl) T.z_str (by decide +kernel) rfl) pa_nil))) (pe_one (pe_cmpR op_eq (pv 0) (pv 1) (nomark _)))))))))), ?_⟩
    have hlen := hp.length
    have tt : PySem.W.kitOne K (.type "tuple") (.type "tuple") = some true := rfl
    refine ⟨_, rfl, _, _, _, _, _, rfl, .ty "tuple", .base (.tup hb), tt, _, rfl, iteT ?_⟩
    refine ⟨_, rfl, _, _, _, _, _, rfl, .ty "tuple", .base (.tup ha), tt, _, rfl, iteF ?_⟩
    refine ⟨_, rfl, a, _, rfl, .inr (SqT.of ha), _, rfl, b, _, rfl, .inr (SqT.of hb), rfl, _, rfl, ?_⟩
    have el : decide (V.int ((xs.length : Nat) : Int) = V.int ((ys.length : Nat) : Int)) = true := by rw [hlen]; exact decide_eq_true rfl
    rw [el]
    refine iteF ⟨_, rfl, _, rfl, a, b, xs, ys, rfl, .inr ⟨SqT.of ha, SqT.of hb, RZ.for_zipT hlen (fun i σ' H' => ∃ o2 o3, σ' = [some (.ref a), some (.ref b), o2, o3] ∧ Fe H H') ⟨none, none, rfl, Fx.refl _ _⟩ (fun i σ' H' ⟨_, _, _, e⟩ => ⟨SqT.of (e.k ha), SqT.of (e.k hb)⟩) ?_ ?_⟩⟩
    · rintro i x y U σ' H' hx hy ⟨o2, o3, rfl, e⟩ hU
      obtain ⟨y', hy', hxy⟩ := Al.get hp hx
      rw [hy] at hy'
      cases hy'
      have e2 := e.trans (Fe.new (o := .tup [x, y]) hU)
      refine ⟨U, _, rfl, SqT.of upd_same, rfl, _, _, rfl, _, _, rfl, rfl, ?_⟩
      exact ⟨_, rfl, _, rfl, x, y, rfl, hR _ _ _ _ e2 hxy, fun H2 e3 => ⟨_, rfl, iteF ⟨_, _, rfl, e2.trans e3⟩⟩⟩
    · rintro σ' H' ⟨o2, o3, rfl, e⟩
      exact kk H' e
theorem fn_or {k : Nat} {f : Addr} {fd : FuncData} {ps : List Str} {s1 s2 : Sp} (F1 : FnOk P w K g base CX0 k f fd ps s1) (F2 : FnOk P w K g base CX0 k f fd ps s2) : FnOk P w K g base CX0 k f fd ps (fun vs H Q E => s1 vs H Q E ∨ s2 vs H Q E) :=
  ⟨fun vs H Q E h => h.elim (F1.len vs H Q E) (F2.len vs H Q E), fun A outer s H args us vs Q E hr he hb hv hs => hs.elim (F1.run A outer s H args us vs Q E hr he hb hv) (F2.run A outer s H args us vs Q E hr he hb hv)⟩
/-- scalars, tuples of them, tuples of these -/
abbrev spEq3 : Sp := fun vs H Q E => spEq sSc vs H Q E ∨ (fun vs H Q E => spEq (sTu sSc) vs H Q E ∨ spEq (sTu (sTu sSc)) vs H Q E) vs H Q E
theorem same_all (T : Txt K g) : FnOk P w K g base CX0 3 T.d_law_same.f T.d_law_same.fd P_law_same spEq3 :=
  fn_or ((same_ok0 T).mono (by decide)) (fn_or ((same_step T mo_sc (same_ok0 T)).mono (by decide)) (same_step T (mo_tu mo_sc) (same_step T mo_sc (same_ok0 T))))
end
end Fm
namespace Fm
open PySem L2
/-- is the other one taken? -/
def takes : Option Nat → Option Nat → Bool
  | none, _ => true
  | some e, some f => decide (f < e)
  | some _, none => false
def spBetter : Sp := fun vs H Q _ => ∃ (n : Nat) (v1 v2 : V) (o1 o2 : Option Nat), vs = [v1, v2] ∧ rO (rPr n) H v1 o1 ∧ rO (rPr n) H v2 o2 ∧ Q (if takes o1 o2 then v2 else v1) H
section
variable {P : Program} {w : World} {K : PySem.W.Frag} {g : Str → Option Value} {base : Heap}
end
end Fm
namespace Fm
open PySem L2
instance {n : Nat} : Mo (rPr n) := ⟨fun f ⟨u, e, h⟩ => ⟨u, e, f.tups _ _ h⟩⟩
def pD (n : Nat) : Option Nat → PyData
  | none => .none
  | some e => .tuple [.int (dC n e : Nat), .int (-((dB n e : Nat) : Int))]
theorem dp_pr {K : PySem.W.Frag} {H : Hp} {n : Nat} {v : V} {o : Option Nat} (h : rO (rPr n) H v o) : Dp K H v (pD n o) := by
  cases o with
  | none =>
    have : v = .non := h
    subst this; exact .non
  | some e =>
    obtain ⟨u, rfl, hu⟩ := h
    exact .tup (SqT.of hu) (.cons (.int _) (.cons (.int _) .nil))
theorem sh_pr (n : Nat) (o : Option Nat) : SeqAt.shaped (pD n o) = true := by
  cases o <;> rfl
theorem eqv_pr (n : Nat) (o p : Option Nat) : PyData.eqv (pD n o) (pD n p) = decide (o = p) := by
  cases o with
  | none => cases p <;> simp [pD, PyData.eqv]
  | some e =>
    cases p with
    | none => simp [pD, PyData.eqv]
    | some f =>
      simp only [pD, PyData.eqv, PyData.eqvAll]
      by_cases q : e = f
      · subst q; simp
      · rw [decide_eq_false (fun z => q (Option.some.inj z))]
        have : ¬ pL n e = pL n f := fun z => q (pL_inj z)
        unfold pL at this
        apply Decidable.byContradiction
        intro z
        apply this
        generalize dC n e = c1 at *
        generalize dC n f = c2 at *
        generalize dB n e = c3 at *
        generalize dB n f = c4 at *
        simp at z
        obtain ⟨z1, z2⟩ := z
        rw [z1, z2]

theorem takes_bet {o : Option Nat} {v : Nat} {v1 v2 : V} (h : Bet o v) : (if takes o (some v) = true then v2 else v1) = v2 := by
  cases o with
  | none => rfl
  | some e => exact if_pos (decide_eq_true (h e rfl))
theorem takes_not {n : Nat} {H : Hp} {o : Option Nat} {v : Nat} {v1 v2 : V} (h : ¬ Bet o v) (_ : rO (rPr n) H v1 o) : (if takes o (some v) = true then v2 else v1) = v1 := by
  cases o with
  | none => exact absurd bet_none h
  | some e =>
    refine if_neg ?_
    show ¬ decide (v < e) = true
    rw [decide_eq_false (fun z => h (bet_some.mpr z))]
    exact fun z => nomatch z
theorem bet_ne {o : Option Nat} {v : Nat} (h : Bet o v) : ¬ (some v = o) := by
  rintro rfl
  exact Nat.lt_irrefl _ (h v rfl)
/-- moves at codes -/
def ScN (n : Nat) (S : Nat → Nat → Nat → Prop) (h to d : Nat) : Prop := ∃ c, S h to c ∧ d = c * (n + 1)
/-- a row of pairs at p -/
def Rw (n : Nat) (H : Hp) (p : Addr) (told : CRow) : Prop := ∃ xs, H p = some (.lst xs) ∧ Al (rO (rPr n)) H xs told
theorem Rw.f {n : Nat} {H H' : Hp} {p : Addr} {told : CRow} (r : Rw n H p told) (f : Fe H H') : Rw n H' p told := by
  obtain ⟨xs, h, a⟩ := r
  exact ⟨xs, f.k h, Al.me f a⟩
theorem Rw.put {n : Nat} {H : Hp} {p : Addr} {told : CRow} {xs : List V} (h : H p = some (.lst xs)) (a : Al (rO (rPr n)) H xs told) {to : Nat} {v : V} {o : Option Nat} (q : rO (rPr n) H v o) : Rw n (upd H p (.lst (xs.set to v))) p (told.set to o) := by
  have f : Fx [p] H (upd H p (.lst (xs.set to v))) := Fx.put h (List.mem_singleton.mpr rfl) (fun _ z => nomatch z)
  exact ⟨_, upd_same, Al.set (Mo.mo f q) to (Al.mo f a)⟩
theorem Rw.ne {n : Nat} {H : Hp} {p q : Addr} {told : CRow} {o : HO} (r : Rw n H p told) (h : H q = some o) (z : ∀ xs, o ≠ .lst xs) : q ≠ p := by
  rintro rfl
  obtain ⟨xs, e, _⟩ := r
  rw [h] at e
  exact z _ (Option.some.inj e)
theorem Rw.rl {n : Nat} {H : Hp} {p : Addr} {told : CRow} (r : Rw n H p told) : rL (rO (rPr n)) H (.ref p) told := by
  obtain ⟨xs, h, a⟩ := r
  exact ⟨p, xs, rfl, h, a⟩
theorem pL_add (N e d : Nat) : (pL N (e + d * (N + 1))).map V.int = [.int ((dC N e : Nat) + (d : Nat) : Int), .int (-((dB N e : Nat) : Int))] := by
  rw [← cod_add, pL_cod (dB_le N e)]
  rfl
def CLWp (N : Nat) (sf a p : Addr) (H : Hp) (n : Nat) (S : Nat → Nat → Nat → Prop) (A0 : Nat → Nat → Prop) (M D : Nat) (k : Nat) (σ' : L2.St) (H' : Hp) : Prop :=
  ∃ (told : CRow) (fs : List Nat) (F : Addr) (o4 o5 o6 o7 o8 o9 : Option V), σ' = [some (.ref sf), some (.ref a), some (.ref p), some (.ref F), o4, o5, o6, o7, o8, o9] ∧ Fe H H' ∧ F ≠ p ∧
    Rw N H' p told ∧ H' F = some (.lst (fs.map vN)) ∧ Rlx n S A0 M D told ∧ (∀ h ∈ fs, h < n ∧ ∃ c, told[h]? = some (some c)) ∧ Rxs S told (· ∈ fs) ∧ k = 2 * Phi (M + n * D) told + (if fs = [] then 0 else 1)
def CLIp (N : Nat) (sf a p F G : Addr) (H : Hp) (n : Nat) (S : Nat → Nat → Nat → Prop) (A0 : Nat → Nat → Prop) (M D : Nat) (fs : List Nat) (i h c ph : Nat) (mv : List (Nat × Nat × Unit)) (j : Nat) (σ' : L2.St) (H2 : Hp) : Prop :=
  ∃ (told' : CRow) (ks : List Nat) (o6 o7 o8 o9 : Option V), σ' = [some (.ref sf), some (.ref a), some (.ref p), some (.ref F), some (.ref G), some (vN h), o6, o7, o8, o9] ∧ Fe H H2 ∧
    Rw N H2 p told' ∧ H2 F = some (.lst (fs.map vN)) ∧ H2 G = some (.dK (tks kN ks)) ∧ ks.Nodup ∧ Rlx n S A0 M D told' ∧ (∀ h ∈ fs, h < n ∧ ∃ c, told'[h]? = some (some c)) ∧
    (∀ h ∈ ks, h < n ∧ ∃ c, told'[h]? = some (some c)) ∧ told'[h]? = some (some c) ∧ Rxs S told' (fun h' => h' ∈ fs.drop (i + 1) ∨ h' ∈ ks ∨ h' = h) ∧ (∀ to d, (to, d, ()) ∈ mv.take j → Rx told' h to (d * (N + 1))) ∧
    Phi (M + n * D) told' ≤ ph ∧ (ks ≠ [] → Phi (M + n * D) told' < ph)
/-- what a def that returns a row of pairs promises -/
def RowP (N : Nat) (H : Hp) (n : Nat) (A : Nat → Nat → Prop) (Q : VK) : Prop := ∀ (p : Addr) (H' : Hp) (row' : CRow), Fe H H' → H p = none → Rw N H' p row' → LRow n A row' → Q (.ref p) H'
def spClosedP (C : Addr) : Sp := fun vs H Q _ => ∃ (N : Nat) (b : Book) (m : Mach) (sts : List Stg) (sf : Addr) (v : V) (row : CRow) (A : Nat → Nat → Prop), vs = [.ref sf, v] ∧ Wb C b m sts H sf ∧ Std b m sts ∧ rL (rO (rPr N)) H v row ∧ LRow sts.length A row ∧
  RowP N H sts.length (Cl (ScN N (Told b m sts none)) A) Q
def spBehindP (C : Addr) : Sp := fun vs H Q _ => ∃ (N : Nat) (b : Book) (m : Mach) (sts : List Stg) (sf : Addr) (v : V) (row : CRow) (A : Nat → Nat → Prop) (x : Nat), vs = [.ref sf, v, .str ⟨#[x]⟩] ∧ Wb C b m sts H sf ∧ Std b m sts ∧ rL (rO (rPr N)) H v row ∧ LRow sts.length A row ∧ x ∈ b.1 ∧
  RowP N H sts.length (Bh (ScN N (Told b m sts (some x))) A) Q
section
variable {P : Program} {w : World} {K : PySem.W.Frag} {g : Str → Option Value} {base : Heap}
end
end Fm
namespace Fm
open PySem L2
theorem set_self {α : Type} : ∀ {l : List α} {i : Nat} {x : α}, l[i]? = some x → l.set i x = l
  | [], i, x, h => by cases i <;> cases h
  | a :: l, 0, x, h => by cases h; rfl
  | a :: l, i + 1, x, h => by rw [List.set_cons_succ, set_self (l := l) h]
theorem nxp_congr {N : Nat} {b : Book} {m : Mach} {sts : List Stg} {n : Nat} {A : Nat → Nat → Prop} {x : Nat} {row : CRow} (h : LRow n A row) {told : CRow} (L : LRow n (Bh (ScN N (Told b m sts (some x))) fun h c => row[h]? = some (some c)) told) : LRow n (Bh (ScN N (Told b m sts (some x))) A) told :=
  L.imp (fun to c ⟨h0, c0, d, h1, h2, h3⟩ => ⟨h0, c0, d, h.snd h0 c0 h1, h2, h3⟩) (fun to c ⟨h0, c0, d, h1, h2, h3⟩ => by
    obtain ⟨c', h4, h5⟩ := h.low h0 c0 h1
    exact ⟨c' + d, ⟨h0, c', d, h4, h2, rfl⟩, by omega⟩)
def EndS (m : Mach) (s : Stg) : Prop := s.2 = [] ∧ s.1 ∈ m.2.1
instance (m : Mach) (s : Stg) : Decidable (EndS m s) := inferInstanceAs (Decidable (_ ∧ _))
def endH (m : Mach) (sts : List Stg) (i : Nat) : List Nat := (List.range i).filter fun h => match sts[h]? with
  | some s => decide (EndS m s)
  | none => false
theorem endH_succ {m : Mach} {sts : List Stg} {i : Nat} {s : Stg} (h : sts[i]? = some s) : endH m sts (i + 1) = endH m sts i ++ (if EndS m s then [i] else []) := by
  unfold endH
  rw [List.range_succ, List.filter_append]
  refine congrArg (fun z => List.filter _ (List.range i) ++ z) ?_
  rw [List.filter_cons, h]
  by_cases q : EndS m s
  · rw [if_pos (decide_eq_true q), if_pos q]; rfl
  · rw [if_neg (fun z => q (of_decide_eq_true z)), if_neg q]; rfl
theorem endH_mem {m : Mach} {sts : List Stg} {h : Nat} : h ∈ endH m sts sts.length ↔ ∃ s, sts[h]? = some s ∧ EndS m s := by
  unfold endH
  rw [List.mem_filter, List.mem_range]
  constructor
  · rintro ⟨h1, h2⟩
    rw [List.getElem?_eq_getElem h1] at h2
    exact ⟨_, List.getElem?_eq_getElem h1, of_decide_eq_true h2⟩
  · rintro ⟨s, h1, h2⟩
    refine ⟨(List.getElem?_eq_some_iff.mp h1).1, ?_⟩
    rw [h1]
    exact decide_eq_true h2
theorem endH_len (m : Mach) (sts : List Stg) (i : Nat) : (endH m sts i).length ≤ i := by
  unfold endH
  exact Nat.le_trans (List.length_filter_le _ _) (by rw [List.length_range]; exact Nat.le_refl _)
def spIsEnd (C : Addr) : Sp := fun vs H Q _ => ∃ (b : Book) (m : Mach) (sts : List Stg) (sf : Addr) (h : Nat) (s : Stg), vs = [.ref sf, vN h] ∧ Wb C b m sts H sf ∧ Std b m sts ∧ sts[h]? = some s ∧ Q (.bl (decide (EndS m s))) H
def spEnds (C : Addr) : Sp := fun vs H Q _ => ∃ (b : Book) (m : Mach) (sts : List Stg) (sf : Addr), vs = [.ref sf] ∧ Wb C b m sts H sf ∧ Std b m sts ∧ ∀ (p : Addr) (H' : Hp), Fe H H' → H p = none → H' p = some (.lst ((endH m sts sts.length).map vN)) → Q (.ref p) H'
section
variable {P : Program} {w : World} {K : PySem.W.Frag} {g : Str → Option Value} {base : Heap}
theorem ok_MoveWeb_is_end (T : Txt K g) : FnOk P w K g base CX0 1 T.d_MoveWeb_is_end.f T.d_MoveWeb_is_end.fd P_MoveWeb_is_end (spIsEnd T.c_MoveWeb) := by
  refine T.d_MoveWeb_is_end.F.ok sc_MoveWeb_is_end (fun vs H Q E h => ?_) (fun cdv A outer s H vs Q E hr h => ?_)
  · obtain ⟨_, _, _, _, _, _, rfl, _⟩ := h
    rfl
  · obtain ⟨b, m, sts, sf, h, s0, rfl, hw, sd, hs, kk⟩ := h
    have hu := hu_of hr
    refine ⟨_, (pss_cons (ps_asg (pe_ix (kx_list (K := K) rfl) (ke_fld (K := K) rfl (pv 0) rfl) (pv 1) (fun _ _ => rfl)) (kg_tup (K := K) 2 rfl rfl (pgs_cons (pg_name (i := 2) sc_MoveWeb_is_end.nd rfl (by first | exact Or.inl rfl | exact Or.inr rfl)) (pgs_cons (pg_name (i := 3) sc_MoveWeb_is_end.nd rfl (by first | exact Or.inl rfl | exact Or.inr rfl)) pgs_nil))))
    (pss_one (ps_ret (pe_and (pe_cmpR op_eq (pv 3) pe_str (nomark _)) (pe_one (pe_cmpR (ko_in (K := K) rfl) (pv 2) (pe_ix (kx_tup (K := K) rfl) (ke_fld (K := K) rfl (pv 0) rfl) pe_int (fun _ _ => rfl)) (by rfl))))))), ?_⟩
    obtain ⟨H0, L, dx, vb, vm, as, ss, ah, rd, W, Rww⟩ := id hw
    obtain ⟨p0, hp0, hins⟩ := W.ins
    obtain ⟨x, hx, u, v1, v2, rfl, hu1, rfl, rfl⟩ := W.hx.at hs
    refine ⟨_, rfl, sf, _, dx, _, _, rfl, hins, T.cl_MoveWeb, T.na_MoveWeb_standings, wfl_s, _, rfl, as, _, _, .ref u, rfl, rfl, SqL.of W.hs, atI_nat hx, ?_⟩
    refine ⟨u, _, rfl, SqT.of hu1, rfl, _, _, rfl, _, _, rfl, rfl, ?_⟩
    refine ⟨_, rfl, rfl, _, rfl, ?_⟩
    obtain ⟨ma, vst, ven, vsp, rfl, hma, rfl, ⟨ea, es, rfl, hea, hes⟩, hsp⟩ := id W.hm
    have hen := hes.nats
    subst hen
    rw [str_nil]
    obtain ⟨q0, r0⟩ := s0
    cases r0 with
    | nil =>
      rw [decide_eq_true rfl]
      refine iteT ⟨_, rfl, _, rfl, sf, _, dx, _, _, rfl, hins, T.cl_MoveWeb, T.na_MoveWeb_machine, wfl_m, ma, _, _, _, rfl, rfl, SqT.of hma, rfl, ea, _, rfl, .inr (SqT.of hea), rfl, flat_nats _, ?_⟩
      have einv : (if false = true then !inV (vN q0) (m.2.1.map vN) else inV (vN q0) (m.2.1.map vN)) = decide (EndS m (q0, [])) := (inV_nats q0 _).trans (decide_eq_decide.mpr ⟨fun h => ⟨rfl, h⟩, fun h => h.2⟩)
      rw [← einv] at kk
      exact kk
    | cons x r =>
      rw [decide_eq_false (fun z => by injection z with z; exact nomatch str_inj z)]
      refine iteF ?_
      have : decide (EndS m (q0, x :: r)) = false := decide_eq_false fun z => nomatch z.1
      rw [this] at kk
      exact kk
theorem ok_MoveWeb_ends (T : Txt K g) : FnOk P w K g base CX0 2 T.d_MoveWeb_ends.f T.d_MoveWeb_ends.fd P_MoveWeb_ends (spEnds T.c_MoveWeb) := by
  refine T.d_MoveWeb_ends.F.ok sc_MoveWeb_ends (fun vs H Q E h => ?_) (fun cdv A outer s H vs Q E hr h => ?_)
  · obtain ⟨_, _, _, _, rfl, _⟩ := h
    rfl
  · obtain ⟨b, m, sts, sf, rfl, hw, sd, kk⟩ := h
    have hu := hu_of hr
    refine ⟨_, (pss_one (ps_ret (pe_lc (own := [("home", 1)]) rfl sc_MoveWeb_ends.nd (pi_range1 rfl T.z_range (pa_cons (pe_callB (kc_len (K := K) rfl) (by rfl) T.z_len PySem.boot_len (pa_cons (ke_fld (K := K) rfl (pv 0) rfl) pa_nil)) pa_nil)) (blkOk_by (N := N_MoveWeb_ends) (sc := defScope s_MoveWeb_ends) (by decide +kernel)) (fun _ _ _ _ _ => by exact (pg_name (i := 1) sc_MoveWeb_ends.nd rfl (by first | exact Or.inl rfl | exact Or.inr rfl))) (fun _ _ _ _ _ => by exact pts_one (pt_val (pe_meth (pv 0) T.cl_MoveWeb T.d_MoveWeb_is_end.m (ok_MoveWeb_is_end T) (hr.mono (by decide)) T.d_MoveWeb_is_end.b .nil pass0 (pa_cons (pv 1) pa_nil)))) (fun _ _ _ _ _ => by exact (pv 1))))), ?_⟩
    obtain ⟨H0, L, dx, vb, vm, as, ss, ah, rd, W, Rww⟩ := id hw
    obtain ⟨p0, hp0, hins⟩ := W.ins
    have hsl := W.hx.len
    have hfew := sd.few
    refine ⟨_, rfl, sf, _, dx, _, _, rfl, hins, T.cl_MoveWeb, T.na_MoveWeb_standings, wfl_s, as, ss, rfl, .inl (SqL.of W.hs), _, rfl, by omega, by omega, fun D hD => ?_⟩
    have hcn : ((ss.length : Nat) : Int).toNat = sts.length := by omega
    rw [hcn]
    refine lc_range (fun i H' => Cmp rN H D (endH m sts i) H') (Cmp.start hD) ?_ ?_
    · intro i H' hi c
      have hs1 : sts[i]? = some sts[i] := List.getElem?_eq_getElem hi
      have hw' := hw.f c.fe
      obtain ⟨dx5, vb5, vm5, as5, ah5, p05, rd5, ss5, hins5, _⟩ := hw'.ins
      rw [endH_succ hs1]
      have hel := endH_len m sts i
      refine ⟨rfl, _, rfl, sf, dx5, _, rfl, hins5, wfl_no (by decide +kernel) (by decide +kernel) (by decide +kernel) (by decide +kernel) (by decide +kernel) (by decide +kernel), _, rfl, b, m, sts, sf, i, sts[i], by rw [Int.zero_add]; rfl, hw', sd, hs1, _, rfl, ?_⟩
      by_cases q : EndS m sts[i]
      · rw [decide_eq_true q, if_pos q]
        exact iteT ⟨_, rfl, c.add (x := i) (by omega) (Fx.refl _ _) (show V.int _ = V.int _ by rw [Int.zero_add])⟩
      · rw [decide_eq_false q, if_neg q, List.append_nil]
        exact iteF c
    · intro H1 c
      obtain ⟨_, xs0, eF, hFx, hFl⟩ := c.rl
      cases eF
      have hfn := hFl.nats
      subst hfn
      exact kk D H1 c.fe hD hFx
end
end Fm
/-! the least cost at an end; rows of costs, told -/
namespace Fm
open PySem L2
/-- what mending a text costs -/
def Mend (b : Book) (m : Mach) (t : List Nat) (c : Nat) : Prop := ∃ q, q ∈ m.2.1 ∧ Rs b m t (q, []) c
/-- the rests, sorted -/
structure RsOf (b : Book) (rs : List (List Nat)) : Prop where
  nd : rs.Nodup
  so : PyProof.Rows.sortedS (rs.map tS) = true
  mem : ∀ r, r ∈ rs ↔ Rest b r
theorem RsOf.eq {b : Book} {l m : List (List Nat)} (a : RsOf b l) (c : RsOf b m) : l = m :=
  srtS_eq ((List.perm_ext_iff_of_nodup a.nd c.nd).mpr fun r => (a.mem r).trans (c.mem r).symm) a.so c.so
theorem Std.rests {b : Book} {m : Mach} {sts : List Stg} (s : Std b m sts) : ∃ rs, RsOf b rs ∧ sts = stsOf m.1 rs := by
  obtain ⟨rs, e, h⟩ := s.how
  have hp := s.ok.mo.pos
  refine ⟨rs, ⟨?_, h, fun r => ?_⟩, e⟩
  · have := s.ok.nd
    rw [e] at this
    have h2 : (rs.map fun r => (0, r)).Nodup := by
      obtain ⟨n, hn⟩ : ∃ n, m.1 = n + 1 := ⟨m.1 - 1, by omega⟩
      rw [hn] at this
      unfold stsOf at this
      rw [List.range_succ_eq_map, List.flatMap_cons] at this
      exact (List.nodup_append.mp this).1
    rw [List.nodup_iff_pairwise_ne] at h2 ⊢
    rw [List.pairwise_map] at h2
    exact h2.imp fun h z => h (by rw [z])
  · have := s.ok.mem (0, r)
    rw [e, stsOf_mem] at this
    exact ⟨fun h => (this.mp ⟨hp, h⟩).2, fun h => (this.mpr ⟨hp, h⟩).2⟩
def spLeastEnd (C : Addr) : Sp := fun vs H Q _ => ∃ (b : Book) (m : Mach) (sts : List Stg) (sf : Addr) (v : V) (row : CRow) (t : List Nat), vs = [.ref sf, v] ∧ Wb C b m sts H sf ∧ Std b m sts ∧ rL (rO rN) H v row ∧ LRow sts.length (Rc b m sts t) row ∧
  ∀ H', Fe H H' → Q (oV (least (Mend b m t))) H'
def spMend : Sp := fun vs H Q _ => ∃ (b : Book) (m : Mach) (t : List Nat) (v1 v2 : V), vs = [v1, v2, .str ⟨t.toArray⟩] ∧ rBook H v1 b ∧ rMach H v2 m ∧ POk b m ∧ (∀ x ∈ t, x ∈ b.1) ∧ ∀ H', Fe H H' → Q (oV (least (Mend b m t))) H'
def spCostRow : Sp := fun vs H Q _ => ∃ (b : Book) (m : Mach) (t : List Nat) (v1 v2 : V), vs = [v1, v2, .str ⟨t.toArray⟩] ∧ rBook H v1 b ∧ rMach H v2 m ∧ POk b m ∧ (∀ x ∈ t, x ∈ b.1) ∧
  ∀ (H' : Hp) (T : Addr) (row : CRow) (rs : List (List Nat)), Fe H H' → H' T = some (.tup (row.map oV)) → RsOf b rs → LRow (stsOf m.1 rs).length (Rc b m (stsOf m.1 rs) t) row → Std b m (stsOf m.1 rs) → Q (.ref T) H'
def spStandings : Sp := fun vs H Q _ => ∃ (b : Book) (m : Mach) (v1 v2 : V), vs = [v1, v2] ∧ rBook H v1 b ∧ rMach H v2 m ∧ POk b m ∧
  ∀ (H' : Hp) (T : Addr) (ys : List V) (rs : List (List Nat)), Fe H H' → H' T = some (.tup ys) → RsOf b rs → Al (rP rN rS) H' ys (stsOf m.1 rs) → Q (.ref T) H'
section
variable {P : Program} {w : World} {K : PySem.W.Frag} {g : Str → Option Value} {base : Heap}
theorem ok_MoveWeb_least_end (T : Txt K g) : FnOk P w K g base CX0 3 T.d_MoveWeb_least_end.f T.d_MoveWeb_least_end.fd P_MoveWeb_least_end (spLeastEnd T.c_MoveWeb) := by
  refine T.d_MoveWeb_least_end.F.ok sc_MoveWeb_least_end (fun vs H Q E h => ?_) (fun cdv A outer s H vs Q E hr h => ?_)
  · obtain ⟨_, _, _, _, _, _, _, rfl, _⟩ := h
    rfl
  · obtain ⟨b, m, sts, sf, v, row, t, rfl, hw, sd, hrow, hL, kk⟩ := h
    have hu := hu_of hr
    refine ⟨_, (pss_one (ps_ret (pe_call (ok_least_of T) (hr.mono (by decide)) rfl T.d_least_of.mg T.d_least_of.kp T.d_least_of.b .nil pass0 (pa_cons (pe_lc (own := [("home", 2)]) rfl sc_MoveWeb_least_end.nd (ki_list (K := K) rfl (pe_meth0 (pv 0) T.cl_MoveWeb T.d_MoveWeb_ends.m (ok_MoveWeb_ends T) (hr.mono (by decide)) T.d_MoveWeb_ends.b .nil pass0)) (blkOk_by (N := N_MoveWeb_least_end) (sc := defScope s_MoveWeb_least_end) (by decide +kernel)) (fun _ _ _ _ _ => by exact (pg_name (i := 2) sc_MoveWeb_least_end.nd rfl (by first | exact Or.inl rfl | exact Or.inr rfl))) (fun _ _ _ _ _ => by exact pts_nil) (fun _ _ _ _ _ => by exact (pe_ix (kx_list (K := K) rfl) (pv 1) (pv 2) (fun _ _ => rfl)))) pa_nil)))), ?_⟩
    obtain ⟨dx5, vb5, vm5, as5, ah5, p05, rd5, ss5, hins5, _⟩ := hw.ins
    obtain ⟨a, xs, rfl, ha, hxs⟩ := id hrow
    have hxo := hxs.opts
    subst hxo
    have hel := endH_len m sts sts.length
    have hfew := sd.few
    refine ⟨_, rfl, sf, dx5, _, rfl, hins5, wfl_no (by decide +kernel) (by decide +kernel) (by decide +kernel) (by decide +kernel) (by decide +kernel) (by decide +kernel), b, m, sts, sf, rfl, hw, sd, fun p7 H7 e7 hp7 hP7 => ?_⟩
    refine ⟨p7, rfl, ⟨_, SqL.of hP7⟩, fun D hD => lc_list (xs := (endH m sts sts.length).map vN) (fun k H' => Cmp (rO rN) H7 D (((endH m sts sts.length).take k).map fun h => row[h]?.getD none) H') (Cmp.start hD) (fun k H' hk c => SqL.of (c.fe.k hP7)) (fun k x H' hx c => ?_) (fun H8 c => ?_)⟩
    · obtain ⟨h, hh, hx'⟩ := (Al.ofNats (H := H') (endH m sts sts.length)).get hx
      have hx' : x = vN h := hx'
      subst hx'
      obtain ⟨s, hs, hse⟩ := endH_mem.mp (List.mem_of_getElem? hh)
      have hhl : h < sts.length := (List.getElem?_eq_some_iff.mp hs).1
      obtain ⟨o3, ho3⟩ : ∃ o3, row[h]? = some o3 := ⟨row[h]'(by rw [hL.len]; exact hhl), List.getElem?_eq_getElem (by rw [hL.len]; exact hhl)⟩
      have htk : ((endH m sts sts.length).take (k + 1)).map (fun h => row[h]?.getD none) = ((endH m sts sts.length).take k).map (fun h => row[h]?.getD none) ++ [o3] := by
        rw [List.take_add_one, hh, List.map_append]
        show _ ++ [row[h]?.getD none] = _
        rw [ho3]; rfl
      rw [htk]
      have hln : (((endH m sts sts.length).take k).map fun h => row[h]?.getD none).length < 1000000 := by
        have h2 := List.length_take_le' k (endH m sts sts.length)
        rw [List.length_map]; omega
      refine ⟨rfl, iteT (B := Cmp (rO rN) H7 D (((endH m sts sts.length).take k).map (fun h => row[h]?.getD none) ++ [o3]) H') ⟨_, rfl, _, rfl, a, _, _, _, rfl, rfl, SqL.of (c.fe.k (e7.k ha)), atI_nat (at_oV ho3), ?_⟩⟩
      exact c.add hln (Fx.refl _ _) (show rO rN _ (oV o3) o3 from by cases o3 <;> rfl)
    · rw [List.length_map, List.take_length] at c
      refine ⟨.ref D, _, rfl, c.rl, by rw [List.length_map]; omega, fun H9 e9 => ?_⟩
      have := kk H9 ((e7.trans c.fe).trans e9)
      have e : least (Mend b m t) = least fun c => some c ∈ (endH m sts sts.length).map fun h => row[h]?.getD none := by
        refine least_same (fun c ⟨q, h1, h2⟩ => ?_) (fun c hc => ?_)
        · have hk := rs_stok sd.ok.mo h2
          obtain ⟨i, hi⟩ := sd.ok.idx hk.1 hk.2
          obtain ⟨c', h3, h4⟩ := hL.low i c ((rc_rs sd.ok t i c).mpr ⟨_, hi, h2⟩)
          exact ⟨c', List.mem_map.mpr ⟨i, endH_mem.mpr ⟨_, hi, rfl, h1⟩, by rw [h3]; rfl⟩, h4⟩
        · obtain ⟨h, h1, h2⟩ := List.mem_map.mp hc
          obtain ⟨s, h3, h4, h5⟩ := endH_mem.mp h1
          have h6 : row[h]? = some (some c) := by
            cases q : row[h]? with
            | none => rw [q] at h2; cases h2
            | some o => rw [q] at h2; exact congrArg some h2
          obtain ⟨s', h7, h8⟩ := (rc_rs sd.ok t h c).mp (hL.snd h c h6)
          rw [h3] at h7; cases h7
          obtain ⟨q, r⟩ := s
          have h4 : r = [] := h4
          subst h4
          exact ⟨c, ⟨q, h5, h8⟩, Nat.le_refl _⟩
      rw [e] at this
      exact this
theorem ok_mend_distance (T : Txt K g) : FnOk P w K g base CX0 7 T.d_mend_distance.f T.d_mend_distance.fd P_mend_distance spMend := by
  refine T.d_mend_distance.F.ok sc_mend_distance (fun vs H Q E h => ?_) (fun cdv A outer s H vs Q E hr h => ?_)
  · obtain ⟨_, _, _, _, _, rfl, _⟩ := h
    rfl
  · obtain ⟨b, m, t, v1, v2, rfl, hb, hm, pok, ht, kk⟩ := h
    have hu := hu_of hr
    refine ⟨_, (pss_cons (ps_set (i := 3) sc_mend_distance.nd rfl (by first | exact Or.inl rfl | exact Or.inr rfl) (pe_make T.mk_MoveWeb (ok_MoveWeb_init T) (hr.mono (by decide)) rfl T.mg_MoveWeb T.d_MoveWeb_init.b .nil pass0 (pa_cons (pv 0) (pa_cons (pv 1) pa_nil))))
    (pss_one (ps_ret (pe_meth (pv 3) T.cl_MoveWeb T.d_MoveWeb_least_end.m (ok_MoveWeb_least_end T) (hr.mono (by decide)) T.d_MoveWeb_least_end.b .nil pass0 (pa_cons (pe_meth (pv 3) T.cl_MoveWeb T.d_MoveWeb_along.m (ok_MoveWeb_along T) (hr.mono (by decide)) T.d_MoveWeb_along.b .nil pass0 (pa_cons (pv 2) pa_nil)) pa_nil))))), ?_⟩
    refine ⟨_, rfl, _, rfl, fun x_ dx hx hdx hne => ?_⟩
    refine ⟨H, b, m, x_, dx, v1, v2, rfl, (Fe.new hdx).trans (Fe.new (by rw [upd_ne hne.symm]; exact hx)), hx, upd_same, hb, hm, pok, fun H1 rs L as xs ah rd hrs so hl W R => ⟨rfl, ?_⟩⟩
    have hw : Wb T.c_MoveWeb b m (stsOf m.1 rs) H1 x_ := ⟨H, L, dx, v1, v2, as, xs, ah, rd, W, R⟩
    have sd : Std b m (stsOf m.1 rs) := ⟨so, hl, rs, rfl, hrs⟩
    have e1 := W.fe
    obtain ⟨dx', vb, vm, as', ah', p0, rd', ss, hins, _⟩ := hw.ins
    refine ⟨_, rfl, x_, dx', _, rfl, hins, wfl_no (by decide +kernel) (by decide +kernel) (by decide +kernel) (by decide +kernel) (by decide +kernel) (by decide +kernel), ?_⟩
    refine ⟨_, rfl, x_, dx', _, rfl, hins, wfl_no (by decide +kernel) (by decide +kernel) (by decide +kernel) (by decide +kernel) (by decide +kernel) (by decide +kernel), _, rfl, ?_⟩
    refine ⟨b, m, _, x_, t, rfl, hw, sd, ht, fun p H3 row e3 hp hP hL => ?_⟩
    exact ⟨b, m, _, x_, .ref p, row, t, rfl, hw.f e3, sd, ⟨p, _, rfl, hP, Al.ofOpts _⟩, hL, fun H4 e4 => kk H4 ((e1.trans e3).trans e4)⟩
theorem ok_cost_row (T : Txt K g) : FnOk P w K g base CX0 7 T.d_cost_row.f T.d_cost_row.fd P_cost_row spCostRow := by
  refine T.d_cost_row.F.ok sc_cost_row (fun vs H Q E h => ?_) (fun cdv A outer s H vs Q E hr h => ?_)
  · obtain ⟨_, _, _, _, _, rfl, _⟩ := h
    rfl
  · obtain ⟨b, m, t, v1, v2, rfl, hb, hm, pok, ht, kk⟩ := h
    have hu := hu_of hr
    refine ⟨_, (pss_one (ps_ret (pe_callTy (kc_tuple (K := K) rfl) (by rfl) T.z_tuple (by decide +kernel) (pa_cons (pe_meth (pe_make T.mk_MoveWeb (ok_MoveWeb_init T) (hr.mono (by decide)) rfl T.mg_MoveWeb T.d_MoveWeb_init.b .nil pass0 (pa_cons (pv 0) (pa_cons (pv 1) pa_nil))) T.cl_MoveWeb T.d_MoveWeb_along.m (ok_MoveWeb_along T) (hr.mono (by decide)) T.d_MoveWeb_along.b .nil pass0 (pa_cons (pv 2) pa_nil)) pa_nil)))), ?_⟩
    refine ⟨_, rfl, _, rfl, fun x_ dx hx hdx hne => ?_⟩
    refine ⟨H, b, m, x_, dx, v1, v2, rfl, (Fe.new hdx).trans (Fe.new (by rw [upd_ne hne.symm]; exact hx)), hx, upd_same, hb, hm, pok, fun H1 rs L as xs ah rd hrs so hl W R => ⟨rfl, ?_⟩⟩
    have hw : Wb T.c_MoveWeb b m (stsOf m.1 rs) H1 x_ := ⟨H, L, dx, v1, v2, as, xs, ah, rd, W, R⟩
    have sd : Std b m (stsOf m.1 rs) := ⟨so, hl, rs, rfl, hrs⟩
    have e1 := W.fe
    obtain ⟨dx', vb, vm, as', ah', p0, rd', ss, hins, _⟩ := hw.ins
    refine ⟨x_, dx', _, rfl, hins, wfl_no (by decide +kernel) (by decide +kernel) (by decide +kernel) (by decide +kernel) (by decide +kernel) (by decide +kernel), _, rfl, ?_⟩
    refine ⟨b, m, _, x_, t, rfl, hw, sd, ht, fun p H3 row e3 hp hP hL => ?_⟩
    refine ⟨p, _, rfl, .inl ⟨SqL.of hP, fun Z hZ => ?_⟩⟩
    obtain ⟨rs', hro, hre⟩ := sd.rests
    rw [hre] at hL sd
    exact kk _ Z row rs' ((e1.trans e3).trans (Fe.new hZ)) upd_same hro hL sd
theorem ok_standings_of (T : Txt K g) : FnOk P w K g base CX0 2 T.d_standings_of.f T.d_standings_of.fd P_standings_of spStandings := by
  refine T.d_standings_of.F.ok sc_standings_of (fun vs H Q E h => ?_) (fun cdv A outer s H vs Q E hr h => ?_)
  · obtain ⟨_, _, _, _, rfl, _⟩ := h
    rfl
  · obtain ⟨b, m, v1, v2, rfl, hb, hm, pok, kk⟩ := h
    have hu := hu_of hr
    refine ⟨_, (pss_one (ps_ret (pe_callTy (kc_tuple (K := K) rfl) (by rfl) T.z_tuple (by decide +kernel) (pa_cons (pe_lc2 (own := [("state", 2), ("rest", 3)]) (vs1 := [3]) rfl sc_standings_of.nd (pi_range1 rfl T.z_range (pa_cons (pe_ix (kx_tup (K := K) rfl) (pv 1) pe_int (fun _ _ => rfl)) pa_nil)) (blkOk_by (N := N_standings_of) (sc := defScope s_standings_of) (by decide +kernel)) (by decide) (fun _ _ _ _ _ => by exact (pg_name (i := 2) sc_standings_of.nd rfl (by first | exact Or.inl rfl | exact Or.inr rfl))) (fun _ _ _ _ _ => by exact pts_nil) (fun _ _ _ _ _ => by exact (ki_list (K := K) rfl (pe_call (ok_rests_of T) (hr.mono (by decide)) rfl T.d_rests_of.mg T.d_rests_of.kp T.d_rests_of.b .nil pass0 (pa_cons (pv 0) pa_nil)))) (fun _ _ _ _ _ => by exact (pg_name (i := 3) sc_standings_of.nd rfl (by first | exact Or.inl rfl | exact Or.inr rfl))) (fun _ _ _ _ _ => by exact pts_nil) (fun _ _ _ _ _ => by exact (pe_tup (pa_cons (pv 2) (pa_cons (pv 3) pa_nil))))) pa_nil)))), ?_⟩
    obtain ⟨am, x0, y0, z0, rfl, ham, rfl, _, _⟩ := id hm
    have hfew := pok.few
    refine ⟨_, rfl, am, _, _, _, rfl, rfl, SqT.of ham, rfl, _, rfl, by omega, by omega, fun D hD => ⟨fun i k H' => i + k = m.1 ∧ ∃ rs, (i = 0 ∨ RsOf b rs ∧ rs.length ≤ 61) ∧ Cmp (rP rN rS) H D (stsOf i rs) H', ⟨m.1, by omega, [], .inl rfl, Cmp.start hD⟩, ?_⟩⟩
    rintro i k H' ⟨hik, rs0, hrs0, c⟩
    by_cases hi : i < m.1
    · refine .inr ⟨by show i < (m.1 : Int).toNat; omega, fun H' => ∃ rs, (RsOf b rs ∧ rs.length ≤ 61) ∧ Cmp (rP rN rS) H D (stsOf (i + 1) rs) H', fun H' ⟨rs, c1, c'⟩ => ⟨k - 1, by omega, by omega, rs, .inr c1, c'⟩, ?_⟩
      rintro x H4 ⟨rfl, rfl⟩
      refine ⟨rfl, ?_⟩
      refine ⟨_, rfl, b, v1, rfl, Me.go hb c.fe, pok.bk, pok.e30, fun vr H3 rs e3 hrs hrn hrsort hrm hrl => ?_⟩
      have hro : RsOf b rs := ⟨hrn, hrsort, hrm⟩
      have hst : stsOf i rs0 = stsOf i rs := by
        rcases hrs0 with rfl | ⟨h, _⟩
        · rfl
        · rw [h.eq hro]
      rw [hst] at c
      have c1 := c.skip e3
      obtain ⟨ar, rxs, rfl, har, hrx⟩ := id hrs
      have hne : ar ≠ D := by
        rintro rfl
        obtain ⟨acc, h1, h2⟩ := c1.ex
        rw [har] at h1
        have h1 := HO.lst.inj (Option.some.inj h1)
        subst h1
        have h0 : 0 < rs.length := List.length_pos_iff.mpr fun z => by
          have := (hro.mem []).mpr (.inl rfl)
          rw [z] at this
          exact nomatch this
        obtain ⟨x, hx, hxr⟩ := hrx.at (List.getElem?_eq_getElem h0)
        obtain ⟨y, _, u, _, _, e, _⟩ := h2.get hx
        rw [show x = _ from hxr] at e
        cases e
      refine ⟨ar, rfl, ⟨_, SqL.of har⟩, fun j k H' => j + k = rs.length ∧ Fx [D] H3 H' ∧ Cmp (rP rN rS) H D (stsOf i rs ++ (rs.take j).map fun r => (i, r)) H', ⟨rs.length, by omega, Fx.refl _ _, by simpa using c1⟩, ?_⟩
      rintro j k' H5 ⟨hjk, e5, c5⟩
      by_cases hj : j < rs.length
      · have hrj : rs[j]? = some rs[j] := List.getElem?_eq_getElem hj
        obtain ⟨xv, hxv, hxr⟩ := hrx.at hrj
        refine .inr ⟨⟨rxs, xv, SqL.of (e5.keep _ _ (fun z => hne (List.mem_singleton.mp z)) har), hxv⟩, fun H' => Fx [D] H3 H' ∧ Cmp (rP rN rS) H D (stsOf i rs ++ (rs.take (j + 1)).map fun r => (i, r)) H', fun H' c' => ⟨k' - 1, by omega, by omega, c'⟩, ?_⟩
        rintro x H6 ⟨rfl, hxe⟩
        have hx2 := hxe rxs (SqL.of (e5.keep _ _ (fun z => hne (List.mem_singleton.mp z)) har))
        rw [hxv] at hx2; cases hx2
        cases hxr
        refine ⟨rfl, ?_⟩
        refine ⟨_, rfl, _, rfl, by show 2 ≤ sizeLine; decide, fun U hU => ?_⟩
        have fU := Fe.new (o := .tup [.int (0 + (i : Int)), .str ⟨(rs[j]).toArray⟩]) hU
        have hz : (rs.take (j + 1)).map (fun r => (i, r)) = (rs.take j).map (fun r => (i, r)) ++ [(i, rs[j])] := by
          rw [List.take_add_one, hrj, List.map_append]; rfl
        rw [hz, ← List.append_assoc]
        obtain ⟨acc, a1, a2, a3⟩ := c5.add (x := (i, rs[j])) (y := .ref U) (by
          rw [List.length_append, stsOf_len, List.length_map, List.length_take]
          have : i * rs.length ≤ 60 * 61 := Nat.mul_le_mul (by omega) hrl
          omega) fU ⟨U, _, _, rfl, upd_same, by rw [Int.zero_add]; rfl, rfl⟩
        exact ⟨acc, a1, a2, (e5.trans fU.to).trans (Fx.put a1 (List.mem_singleton.mpr rfl) (fun _ z => nomatch z)), a3⟩
      · have e : j = rs.length := by omega
        subst e
        refine .inl ⟨⟨rxs, SqL.of (e5.keep _ _ (fun z => hne (List.mem_singleton.mp z)) har), by rw [hrx.len]; exact Nat.le_refl _⟩, ?_⟩
        rw [List.take_length] at c5
        refine ⟨rs, ⟨hro, hrl⟩, ?_⟩
        rw [stsOf_succ]
        exact c5
    · have e : i = m.1 := by omega
      subst e
      refine .inl ⟨by show (m.1 : Int).toNat ≤ m.1; omega, ?_⟩
      have hp := pok.mo.pos
      rcases hrs0 with h | ⟨hro, hrl⟩
      · omega
      · obtain ⟨_, eD, xs, hDx, hxs⟩ := c
        refine ⟨D, _, rfl, .inl ⟨SqL.of hDx, fun Z hZ => ?_⟩⟩
        have fZ := Fe.new (o := .tup xs) hZ
        exact kk _ Z xs rs0 (eD.trans fZ) upd_same hro (Al.me fZ hxs)
end
end Fm
/-! moves between two texts -/
namespace Fm
open PySem L2
abbrev OpE := List Nat × List Nat × Nat
abbrev Mv4 := (List Nat × List Nat) × Nat × Nat
abbrev rMv4 : Rp Mv4 := rP3 (rP rS rS) rN rN
/-- an operation at the places i, j -/
def mvs (t o : List Nat) (i j : Nat) (e : OpE) : Option Mv4 := if (t.drop i).take e.1.length = e.1 ∧ (o.drop j).take e.2.1.length = e.2.1 then some ((e.1, e.2.1), e.2.2, (i + e.1.length) * (o.length + 1) + j + e.2.1.length) else none
def mrow (ops : List OpE) (t o : List Nat) (i j : Nat) : List Mv4 := ops.filterMap (mvs t o i j)
def mtab (ops : List OpE) (t o : List Nat) (n : Nat) : List (List Mv4) := (List.range n).map fun k => mrow ops t o (k / (o.length + 1)) (k % (o.length + 1))
theorem mtab_succ (ops : List OpE) (t o : List Nat) (i j : Nat) (hj : j < o.length + 1) : mtab ops t o (i * (o.length + 1) + j + 1) = mtab ops t o (i * (o.length + 1) + j) ++ [mrow ops t o i j] := by
  unfold mtab
  rw [List.range_succ, List.map_append]
  show _ ++ [mrow ops t o ((i * (o.length + 1) + j) / (o.length + 1)) ((i * (o.length + 1) + j) % (o.length + 1))] = _
  rw [Nat.mul_comm, Nat.mul_add_div (by omega), Nat.mul_add_mod, Nat.div_eq_of_lt hj, Nat.mod_eq_of_lt hj]
  rfl
theorem mrow_succ {ops : List OpE} {t o : List Nat} {i j k : Nat} {e : OpE} (h : ops[k]? = some e) : mrow (ops.take (k + 1)) t o i j = mrow (ops.take k) t o i j ++ (mvs t o i j e).toList := by
  unfold mrow
  rw [List.take_add_one, h, List.filterMap_append]
  refine appR ?_
  show List.filterMap _ [e] = _
  rw [List.filterMap_cons]
  cases mvs t o i j e <;> rfl
def spPairMoves : Sp := fun vs H Q _ => ∃ (b : Book) (t o : List Nat) (v1 : V), vs = [v1, .str ⟨t.toArray⟩, .str ⟨o.toArray⟩] ∧ rBook H v1 b ∧ b.2.length ≤ 100 ∧ b.1.length ≤ 100 ∧ t.length ≤ 500 ∧ o.length ≤ 500 ∧ (∀ e ∈ b.2, e.1.length ≤ 500 ∧ e.2.1.length ≤ 500) ∧
  ∀ (H' : Hp) (Z : Addr) (v : V) (ops : List OpE), Fe H H' → H' Z = some (.tup [vN ((t.length + 1) * (o.length + 1)), v]) → ops.Perm (alle b) → rL (rL rMv4) H' v (mtab ops t o ((t.length + 1) * (o.length + 1))) → Q (.ref Z) H'
section
variable {P : Program} {w : World} {K : PySem.W.Frag} {g : Str → Option Value} {base : Heap}
theorem ok_pair_moves (T : Txt K g) : FnOk P w K g base CX0 1 T.d_pair_moves.f T.d_pair_moves.fd P_pair_moves spPairMoves := by
  refine T.d_pair_moves.F.ok sc_pair_moves (fun vs H Q E h => ?_) (fun cdv A outer s H vs Q E hr h => ?_)
  · obtain ⟨_, _, _, _, rfl, _⟩ := h
    rfl
  · obtain ⟨b, t, o, v1, rfl, hb, hb100, hl100, ht, ho, hlen, kk⟩ := h
    have hu := hu_of hr
    refine ⟨_, (pss_cons (ps_set (i := 3) sc_pair_moves.nd rfl (by first | exact Or.inl rfl | exact Or.inr rfl) (pe_op op_add (pe_callB kc_lenS (by rfl) T.z_len PySem.boot_len (pa_cons (pv 2) pa_nil)) pe_int))
    (pss_cons (ps_set (i := 4) sc_pair_moves.nd rfl (by first | exact Or.inl rfl | exact Or.inr rfl) (pe_callB (kc_sortedTL (K := K) rfl) (by rfl) T.z_sorted (by decide +kernel) (pa_cons (pe_op op_cat (pe_lc (own := [("edit", 12)]) rfl sc_pair_moves.nd (ki_tup (K := K) rfl (pe_ix (kx_tup (K := K) rfl) (pv 0) pe_int (fun _ _ => rfl))) (blkOk_by (N := N_pair_moves) (sc := defScope s_pair_moves) (by decide +kernel)) (fun _ _ _ _ _ => by exact (pg_name (i := 12) sc_pair_moves.nd rfl (by first | exact Or.inl rfl | exact Or.inr rfl))) (fun _ _ _ _ _ => by exact pts_nil) (fun _ _ _ _ _ => by exact (pe_tup (pa_cons (pe_ix (kx_tup (K := K) rfl) (pv 12) pe_int (fun _ _ => rfl)) (pa_cons (pe_ix (kx_tup (K := K) rfl) (pv 12) pe_int (fun _ _ => rfl)) (pa_cons (pe_ix (kx_tup (K := K) rfl) (pv 12) pe_int (fun _ _ => rfl)) pa_nil)))))) (pe_lc (own := [("sign", 13)]) rfl sc_pair_moves.nd (pi_str (pe_ix (kx_tup (K := K) rfl) (pv 0) pe_int (fun _ _ => rfl))) (blkOk_by (N := N_pair_moves) (sc := defScope s_pair_moves) (by decide +kernel)) (fun _ _ _ _ _ => by exact (pg_name (i := 13) sc_pair_moves.nd rfl (by first | exact Or.inl rfl | exact Or.inr rfl))) (fun _ _ _ _ _ => by exact pts_nil) (fun _ _ _ _ _ => by exact (pe_tup (pa_cons (pv 13) (pa_cons (pv 13) (pa_cons pe_int pa_nil))))))) pa_nil)))
    (pss_cons (ps_set (i := 5) sc_pair_moves.nd rfl (by first | exact Or.inl rfl | exact Or.inr rfl) (pe_lst pa_nil))
    (pss_cons (ps_for PassesOwn.never rfl (pi_range1 rfl T.z_range (pa_cons (pe_op op_add (pe_callB kc_lenS (by rfl) T.z_len PySem.boot_len (pa_cons (pv 1) pa_nil)) pe_int) pa_nil)) (pg_name (i := 6) sc_pair_moves.nd rfl (by first | exact Or.inl rfl | exact Or.inr rfl))
      (pss_one (ps_for PassesOwn.never rfl (pi_range1 rfl T.z_range (pa_cons (pv 3) pa_nil)) (pg_name (i := 7) sc_pair_moves.nd rfl (by first | exact Or.inl rfl | exact Or.inr rfl))
        (pss_cons (ps_set (i := 8) sc_pair_moves.nd rfl (by first | exact Or.inl rfl | exact Or.inr rfl) (pe_lst pa_nil))
        (pss_cons (ps_for PassesOwn.never rfl (ki_list (K := K) rfl (pv 4)) (kg_tup (K := K) 3 rfl rfl (pgs_cons (pg_name (i := 9) sc_pair_moves.nd rfl (by first | exact Or.inl rfl | exact Or.inr rfl)) (pgs_cons (pg_name (i := 10) sc_pair_moves.nd rfl (by first | exact Or.inl rfl | exact Or.inr rfl)) (pgs_cons (pg_name (i := 11) sc_pair_moves.nd rfl (by first | exact Or.inl rfl | exact Or.inr rfl)) pgs_nil))))
          (pss_one (ps_if (PW.pt (pw_and (pt_val (ke_bm (K := K) rfl PySem.F.plainAttrs_str PySem.F.slot_str_startswith PySem.F.type_str_startswith mt_startswith3 (pv 1) (pa_cons (pv 9) (pa_cons (pv 6) pa_nil)))) (pw_and1 (pt_val (ke_bm (K := K) rfl PySem.F.plainAttrs_str PySem.F.slot_str_startswith PySem.F.type_str_startswith mt_startswith3 (pv 2) (pa_cons (pv 10) (pa_cons (pv 7) pa_nil)))))))
            (pss_one (ps_expr (ke_bm (K := K) rfl PySem.F.plainAttrs_list PySem.F.slot_list_append PySem.F.type_list_append mt_append (pv 8) (pa_cons (pe_tup (pa_cons (pe_tup (pa_cons (pv 9) (pa_cons (pv 10) pa_nil))) (pa_cons (pv 11) (pa_cons (pe_op op_add (pe_op op_add (pe_op op_mul (pe_op op_add (pv 6) (pe_callB kc_lenS (by rfl) T.z_len PySem.boot_len (pa_cons (pv 9) pa_nil))) (pv 3)) (pv 7)) (pe_callB kc_lenS (by rfl) T.z_len PySem.boot_len (pa_cons (pv 10) pa_nil))) pa_nil)))) pa_nil))))
            pss_nil)))
        (pss_one (ps_expr (ke_bm (K := K) rfl PySem.F.plainAttrs_list PySem.F.slot_list_append PySem.F.type_list_append mt_append (pv 5) (pa_cons (pv 8) pa_nil)))))))))
    (pss_one (ps_ret (pe_tup (pa_cons (pe_op op_mul (pe_op op_add (pe_callB kc_lenS (by rfl) T.z_len PySem.boot_len (pa_cons (pv 1) pa_nil)) pe_int) (pv 3)) (pa_cons (pv 5) pa_nil))))))))), ?_⟩
    obtain ⟨bk, vl, ve, rfl, hbk, rfl, hed⟩ := id hb
    obtain ⟨c, eds, rfl, hc, heds⟩ := id hed
    have hedl := heds.len
    refine ⟨_, rfl, _, rfl, by rw [slen, sizeLine_eq]; omega, _, _, rfl, rfl, ?_⟩
    -- operations
    refine ⟨_, rfl, bk, _, _, _, rfl, rfl, SqT.of hbk, atI_nat (j := 1) rfl, c, rfl, ⟨_, SqT.of hc⟩, fun L1 hL1 => lc_tup (xs := eds) (fun i H' => Cmp rEd H L1 (b.2.take i) H') (Cmp.start hL1) (fun i H' hi c1 => SqT.of (c1.fe.k hc)) (fun i x H' hx c1 => ?_) (fun H1 c1 => ?_)⟩
    · obtain ⟨e, he, hxr⟩ := (Al.me c1.fe heds).get hx
      obtain ⟨u, x1, x2, x3, rfl, hu1, rfl, rfl, rfl⟩ := id hxr
      have htk : b.2.take (i + 1) = b.2.take i ++ [e] := by rw [List.take_add_one, he]; rfl
      rw [htk]
      refine ⟨rfl, iteT (B := Cmp rEd H L1 (b.2.take i ++ [e]) H') ⟨_, rfl, u, _, _, _, rfl, rfl, SqT.of hu1, rfl, _, rfl, u, _, _, _, rfl, rfl, SqT.of hu1, rfl, _, rfl, u, _, _, _, rfl, rfl, SqT.of hu1, rfl, by show 3 ≤ sizeLine; decide, fun U hU => ?_⟩⟩
      exact c1.add (by rw [List.length_take]; omega) (Fe.new hU) ⟨U, _, _, _, rfl, upd_same, rfl, rfl, rfl⟩
    · rw [hedl, List.take_length] at c1
      obtain ⟨es1, hL1v, al1⟩ := c1.ex
      have e1 := c1.fe
      refine ⟨_, rfl, bk, _, _, _, rfl, rfl, SqT.of (e1.k hbk), atI_nat (j := 0) rfl, _, rfl, fun Lb hLb => lc_by b.1.length (fun i H' => Cmp rEd _ Lb ((b.1.take i).map fun x => ([x], [x], 0)) H') (Cmp.start hLb) (fun i H' hi c => ?_) (fun H' c => ?_) ?_ ?_⟩
      · show i < (b.1.toArray).size
        rw [List.size_toArray]; exact hi
      · show (b.1.toArray).size ≤ b.1.length
        rw [List.size_toArray]; exact Nat.le_refl _
      · intro i y H' H5 hi c hyd
        obtain ⟨rfl, x, hx, rfl⟩ := hyd
        have hx' : b.1.toArray[i]? = some x := hx
        rw [List.getElem?_toArray] at hx'
        refine ⟨rfl, _, rfl, _, rfl, by show 3 ≤ sizeLine; decide, fun U hU => ?_⟩
        have e : (b.1.take (i + 1)).map (fun x => (([x], [x], 0) : List Nat × List Nat × Nat)) = (b.1.take i).map (fun x => ([x], [x], 0)) ++ [([x], [x], 0)] := by
          rw [List.take_add_one, hx', List.map_append]; rfl
        rw [e]
        exact c.add (x := ([x], [x], 0)) (y := .ref U) (by rw [List.length_map, List.length_take]; omega) (Fe.new hU) ⟨U, _, _, _, rfl, upd_same, rfl, rfl, rfl⟩
      · intro H2 c2
        rw [List.take_length] at c2
        obtain ⟨zs, hLbv, alz⟩ := c2.ex
        have hzl := alz.len
        rw [List.length_map] at hzl
        have hel := al1.len
        refine ⟨L1, Lb, es1, zs, rfl, rfl, c2.fe.k hL1v, hLbv, by rw [sizeLine_eq]; omega, fun L hL => ?_⟩
        have gL := Fe.new (o := .lst (es1 ++ zs)) hL
        have all : Al rEd (upd H2 L (.lst (es1 ++ zs))) (es1 ++ zs) (alle b) := Al.app (Al.mo (c2.fe.trans gL) al1) (Al.mo gL alz)
        obtain ⟨ps, hps, hsq, hback⟩ := tl_sort K edK (fun v x h => ed_key h) (sh := [true, true, false]) (fun x => rfl) all
        refine ⟨L, ps, [true, true, false], rfl, by rw [← hps]; exact SqL.of upd_same, hsq, (fun z => nomatch z), fun ps' q hpm hq => ?_⟩
        obtain ⟨ops, hop, hal⟩ := hback ps' hpm
        have gq := Fe.new (o := .lst (ps'.map fun q => V.ref q.1)) hq
        have f3 := ((e1.trans c2.fe).trans gL).trans gq
        have halq := Al.mo gq hal
        have hqv : (upd (upd H2 L (.lst (es1 ++ zs))) q (.lst (ps'.map fun q => V.ref q.1))) q = some (.lst (ps'.map fun q => V.ref q.1)) := upd_same
        generalize ps'.map (fun q => V.ref q.1) = xs at halq hqv gq f3 ⊢
        generalize upd (upd H2 L (.lst (es1 ++ zs))) q (.lst xs) = H3 at f3 halq hqv ⊢
        have hopl : ops.length ≤ 200 := by
          rw [hop.length_eq]
          unfold alle
          rw [List.length_append, List.length_map]; omega
        have hoplen : ∀ e ∈ ops, e.1.length ≤ 500 ∧ e.2.1.length ≤ 500 := fun e he => by
          have := hop.mem_iff.mp he
          unfold alle at this
          rcases List.mem_append.mp this with h | h
          · exact hlen e h
          · obtain ⟨x, _, rfl⟩ := List.mem_map.mp h
            simp
        -- moves
        refine ⟨Nat.zero_le _, fun R hR => ?_⟩
        have gR := Fe.new (o := .lst []) hR
        have hRn : H3 R = none := hR
        refine ⟨_, rfl, _, rfl, by rw [slen, sizeLine_eq]; omega, _, _, rfl, rfl, _, rfl, by rw [slen]; omega, by rw [slen]; omega, ?_⟩
        have hcn : (((⟨t.toArray⟩ : Str).length : Int) + 1).toNat = t.length + 1 := by rw [slen]; omega
        rw [hcn]
        have hqR : (upd H3 R (.lst [])) q = some (.lst xs) := gR.k hqv
        refine for_range (lo := 0) (n := t.length + 1) (fun i σ' H' => ∃ (ms : List V) (o6 o7 o8 o9 o10 o11 : Option V), σ' = [some (.ref bk), some (.str ⟨t.toArray⟩), some (.str ⟨o.toArray⟩), some (.int (((⟨o.toArray⟩ : Str).length : Int) + 1)), some (.ref q), some (.ref R), o6, o7, o8, o9, o10, o11, none, none] ∧ Fe H3 H' ∧
          H' R = some (.lst ms) ∧ Al (rLa [R] rMv4) H' ms (mtab ops t o (i * (o.length + 1)))) ⟨[], _, _, _, _, _, _, rfl, gR, upd_same, by rw [Nat.zero_mul]; exact .nil⟩ ?_ ?_
        · rintro i σ' H4 hi ⟨ms, o6, o7, o8, o9, o10, o11, rfl, e, hRv, hms⟩
          rw [show ((0 : Int) + (i : Int)) = (i : Int) from Int.zero_add _]
          refine ⟨_, rfl, _, rfl, by rw [slen]; omega, by rw [slen]; omega, ?_⟩
          have hcn2 : (((⟨o.toArray⟩ : Str).length : Int) + 1).toNat = o.length + 1 := by rw [slen]; omega
          rw [hcn2]
          refine for_range (lo := 0) (n := o.length + 1) (fun j σ' H' => ∃ (ms : List V) (o7 o8 o9 o10 o11 : Option V), σ' = [some (.ref bk), some (.str ⟨t.toArray⟩), some (.str ⟨o.toArray⟩), some (.int (((⟨o.toArray⟩ : Str).length : Int) + 1)), some (.ref q), some (.ref R), some (.int (i : Int)), o7, o8, o9, o10, o11, none, none] ∧ Fe H3 H' ∧
            H' R = some (.lst ms) ∧ Al (rLa [R] rMv4) H' ms (mtab ops t o (i * (o.length + 1) + j))) ⟨ms, _, _, _, _, _, rfl, e, hRv, hms⟩ ?_ ?_
          · clear hms hRv e
            rintro j σ' H5 hj ⟨ms, o7, o8, o9, o10, o11, rfl, e, hRv, hms⟩
            rw [show ((0 : Int) + (j : Int)) = (j : Int) from Int.zero_add _]
            refine ⟨Nat.zero_le _, fun r hr => ?_⟩
            have gr := Fe.new (o := .lst []) hr
            have er := e.trans gr
            have nrR : r ≠ R := (ne_of_none hRv hr).symm
            have hRr := gr.k hRv
            have hmr : Al (rLa [R, r] rMv4) _ ms _ := Al.ma (N := [R, r]) gr.to (hms.imp fun v x h => rLa.more h hr fun _ _ h => h)
            have hqr := er.k hqv
            have hr0 : (upd H5 r (.lst [])) r = some (.lst []) := upd_same
            have hr3 : H3 r = none := e.free hr
            have nqr : q ≠ r := ne_of_none hqv hr3
            generalize upd H5 r (.lst []) = H6 at er hRr hmr hqr hr0 ⊢
            refine ⟨_, rfl, q, rfl, ⟨_, SqL.of hqr⟩, for_lst (xs := xs) (fun k σ' H' => ∃ (ys : List V) (o9 o10 o11 : Option V), σ' = [some (.ref bk), some (.str ⟨t.toArray⟩), some (.str ⟨o.toArray⟩), some (.int (((⟨o.toArray⟩ : Str).length : Int) + 1)), some (.ref q), some (.ref R), some (.int (i : Int)), some (.int (j : Int)), some (.ref r), o9, o10, o11, none, none] ∧ Fx [r] H6 H' ∧
              H' r = some (.lst ys) ∧ Al rMv4 H' ys (mrow (ops.take k) t o i j)) ⟨[], _, _, _, rfl, Fx.refl _ _, hr0, .nil⟩ (fun k σ' H' _ ⟨_, _, _, _, _, f, _⟩ => f.keep _ _ (fun z => nqr (List.mem_singleton.mp z)) hqr) ?_ ?_⟩
            · rintro k x σ' H7 hx ⟨ys, o9, o10, o11, rfl, f, hrv, hys⟩
              obtain ⟨ed, hed2, hxr⟩ := (Al.mo ((er.to (M := [r])).trans f) halq).get hx
              obtain ⟨u, x1, x2, x3, rfl, hu1, rfl, rfl, rfl⟩ := id hxr
              obtain ⟨hl1, hl2⟩ := hoplen ed (List.mem_of_getElem? hed2)
              have hkl : k < ops.length := (List.getElem?_eq_some_iff.mp hed2).1
              refine ⟨u, _, rfl, SqT.of hu1, rfl, _, _, rfl, _, _, rfl, _, _, rfl, rfl, ?_⟩
              have hs1 : Txt.startswith3 (tS t) (tS ed.1) (i : Int) = decide ((t.drop i).take ed.1.length = ed.1) := starts3 t ed.1 i (by omega)
              have hs2 : Txt.startswith3 (tS o) (tS ed.2.1) (j : Int) = decide ((o.drop j).take ed.2.1.length = ed.2.1) := starts3 o ed.2.1 j (by omega)
              have hsucc := mrow_succ (t := t) (o := o) (i := i) (j := j) hed2
              have no : mvs t o i j ed = none → ∀ z, (∃ (ys : List V) (o9 o10 o11 : Option V), [some (.ref bk), some (.str ⟨t.toArray⟩), some (.str ⟨o.toArray⟩), some (.int (((⟨o.toArray⟩ : Str).length : Int) + 1)), some (.ref q), some (.ref R), some (.int (i : Int)), some (.int (j : Int)), some (.ref r), some (.str ⟨ed.1.toArray⟩), some (.str ⟨ed.2.1.toArray⟩), some z, none, none] = [some (.ref bk), some (.str ⟨t.toArray⟩), some (.str ⟨o.toArray⟩), some (.int (((⟨o.toArray⟩ : Str).length : Int) + 1)), some (.ref q), some (.ref R), some (.int (i : Int)), some (.int (j : Int)), some (.ref r), o9, o10, o11, none, none] ∧ Fx [r] H6 H7 ∧
                  H7 r = some (.lst ys) ∧ Al rMv4 H7 ys (mrow (ops.take (k + 1)) t o i j)) := fun hn z => by
                refine ⟨ys, _, _, _, rfl, f, hrv, ?_⟩
                rw [hsucc, hn]
                show Al rMv4 H7 ys (_ ++ [])
                rw [List.append_nil]
                exact hys
              refine ⟨_, rfl, rfl, _, rfl, _, rfl, _, _, _, rfl, rfl, _, rfl, ?_⟩
              show (if Txt.startswith3 (tS t) (tS ed.1) (i : Int) = true then _ else _)
              rw [hs1]
              by_cases h1 : (t.drop i).take ed.1.length = ed.1
              · rw [decide_eq_true h1]
                refine iteT ?_
                refine ⟨_, rfl, rfl, _, rfl, _, rfl, _, _, _, rfl, rfl, _, rfl, ?_⟩
                show (if Txt.startswith3 (tS o) (tS ed.2.1) (j : Int) = true then _ else _)
                rw [hs2]
                by_cases h2 : (o.drop j).take ed.2.1.length = ed.2.1
                · rw [decide_eq_true h2]
                  refine iteT ?_
                  have hm : mvs t o i j ed = some ((ed.1, ed.2.1), ed.2.2, (i + ed.1.length) * (o.length + 1) + j + ed.2.1.length) := if_pos ⟨h1, h2⟩
                  refine ⟨_, rfl, .inl ⟨rfl, _, SqL.of hrv⟩, _, rfl, _, rfl, by show 2 ≤ sizeLine; decide, fun U1 hU1 => ?_⟩
                  have g1 := Fe.new (o := .tup [.str ⟨ed.1.toArray⟩, .str ⟨ed.2.1.toArray⟩]) hU1
                  refine ⟨_, rfl, _, rfl, _, rfl, _, rfl, by rw [slen, sizeLine_eq]; omega, _, _, rfl, rfl, _, rfl, _, _, rfl, rfl, .inr (by rw [slen]; omega), _, rfl, _, _, rfl, rfl, _, rfl, _, rfl, by rw [slen, sizeLine_eq]; omega, _, _, rfl, rfl, by show 3 ≤ sizeLine; decide, fun U2 hU2 => ?_⟩
                  have ebig : ((i : Int) + ((⟨ed.1.toArray⟩ : Str).length : Int)) * (((⟨o.toArray⟩ : Str).length : Int) + 1) + (j : Int) + ((⟨ed.2.1.toArray⟩ : Str).length : Int) = (((i + ed.1.length) * (o.length + 1) + j + ed.2.1.length : Nat) : Int) := by
                    rw [slen, slen, slen]; push_cast; rfl
                  have g2 := Fe.new (o := .tup [.ref U1, .int (ed.2.2 : Int), .int (((i : Int) + ((⟨ed.1.toArray⟩ : Str).length : Int)) * (((⟨o.toArray⟩ : Str).length : Int) + 1) + (j : Int) + ((⟨ed.2.1.toArray⟩ : Str).length : Int))]) hU2
                  have hy2 := Al.snoc (r := rMv4) (x := .ref U2) (y := ((ed.1, ed.2.1), ed.2.2, (i + ed.1.length) * (o.length + 1) + j + ed.2.1.length)) ⟨U2, _, _, _, rfl, upd_same, ⟨U1, _, _, rfl, g2.k upd_same, rfl, rfl⟩, rfl, congrArg V.int ebig⟩ (Al.mo (g1.trans g2) hys)
                  have hrv2 := (g1.trans g2).k hrv
                  have f2 := f.trans (g1.trans g2).to
                  have hyl : ys.length ≤ 200 := by
                    rw [hys.len]
                    unfold mrow
                    have a1 := List.length_filterMap_le (mvs t o i j) (ops.take k)
                    have a2 := List.length_take_le' k ops
                    omega
                  refine ⟨r, ys, _, rfl, rfl, hrv2, by rw [sizeLine_eq]; omega, ys ++ [.ref U2], _, _, _, rfl, f2.trans (Fx.put hrv2 (List.mem_singleton.mpr rfl) (fun _ z => nomatch z)), upd_same, ?_⟩
                  rw [hsucc, hm]
                  exact Al.mo (Fx.put (M := [r]) hrv2 (List.mem_singleton.mpr rfl) (fun _ z => nomatch z)) hy2
                · rw [decide_eq_false h2]
                  refine iteF ?_
                  first | exact no (if_neg fun z => h2 z.2) _ | exact iteF (no (if_neg fun z => h2 z.2) _)
              · rw [decide_eq_false h1]
                refine iteF ?_
                first | exact no (if_neg fun z => h1 z.1) _ | exact iteF (no (if_neg fun z => h1 z.1) _)
            · rintro σ' H7 ⟨ys, o9, o10, o11, rfl, f, hrv, hys⟩
              have hxl : xs.length = ops.length := halq.len
              rw [hxl, List.take_length] at hys
              have hR7 := f.keep _ _ (fun z => nrR (List.mem_singleton.mp z).symm) hRr
              have hml := hms.len
              unfold mtab at hml
              rw [List.length_map, List.length_range] at hml
              have hmb : i * (o.length + 1) ≤ 500 * 501 := Nat.mul_le_mul (by omega) (by omega)
              have hm7 : Al (rLa [R] rMv4) H7 ms (mtab ops t o (i * (o.length + 1) + j)) :=
                (Al.ma (N := [R, r]) (f.wk (by simp)) hmr).imp fun v x h => rLa.sub h (by simp) fun _ _ h => h
              refine ⟨_, rfl, .inl ⟨rfl, _, SqL.of hR7⟩, _, rfl, R, ms, _, rfl, rfl, hR7, by rw [sizeLine_eq]; omega, ms ++ [.ref r], _, _, _, _, _, rfl, ?_, upd_same, ?_⟩
              · exact (Fx.of_fx er f hr3).mut hRn
              · rw [show i * (o.length + 1) + (j + 1) = i * (o.length + 1) + j + 1 by omega, mtab_succ ops t o i j hj]
                have fR : Fx [R] H7 (upd H7 R (.lst (ms ++ [.ref r]))) := Fx.put hR7 (List.mem_singleton.mpr rfl) (fun _ z => nomatch z)
                exact Al.ma (N := [R]) fR (Al.snoc ⟨r, ys, rfl, hrv, hys, fun z => nrR (List.mem_singleton.mp z)⟩ hm7)
          · rintro σ' H5 ⟨ms, o7, o8, o9, o10, o11, rfl, e, hRv, hms⟩
            exact ⟨ms, _, _, _, _, _, _, rfl, e, hRv, by rw [Nat.add_mul, Nat.one_mul]; exact hms⟩
        · rintro σ' H4 ⟨ms, o6, o7, o8, o9, o10, o11, rfl, e, hRv, hms⟩
          refine ⟨_, rfl, _, rfl, by rw [slen, sizeLine_eq]; omega, _, _, rfl, rfl, _, rfl, _, _, rfl, rfl, .inr (by rw [slen]; omega), _, rfl, by show 2 ≤ sizeLine; decide, fun Z hZ => ?_⟩
          have gZ := Fe.new (o := .tup [.int ((((⟨t.toArray⟩ : Str).length : Int) + 1) * (((⟨o.toArray⟩ : Str).length : Int) + 1)), .ref R]) hZ
          have eb : (((⟨t.toArray⟩ : Str).length : Int) + 1) * (((⟨o.toArray⟩ : Str).length : Int) + 1) = (((t.length + 1) * (o.length + 1) : Nat) : Int) := by
            rw [slen, slen]; push_cast; rfl
          refine kk _ Z (.ref R) ops ((f3.trans e).trans gZ) ?_ hop (Me.go (r := rL (rL rMv4)) ⟨R, ms, rfl, hRv, hms.imp fun v x h => rLa.to h fun _ _ h => h⟩ gZ)
          exact upd_same.trans (congrArg (fun z => some (HO.tup [V.int z, V.ref R])) eb)
end
end Fm
/-! distances between two texts -/
namespace Fm
open PySem L2
/-- paths to the last node -/
inductive Pth (M : List (List Mv4)) (n : Nat) : Nat → Nat → Prop
  | fin : Pth M n n 0
  | step {k c : Nat} {row : List Mv4} {e : Mv4} : M[k]? = some row → e ∈ row → Pth M n e.2.2 c → Pth M n k (e.2.1 + c)
/-- all moves lead on -/
def MOn (M : List (List Mv4)) : Prop := ∀ (k : Nat) (row : List Mv4), M[k]? = some row → ∀ e ∈ row, k < e.2.2 ∧ e.2.2 < M.length
theorem Pth.le {M : List (List Mv4)} {n k c : Nat} (on : MOn M) (h : Pth M n k c) : k ≤ n := by
  induction h with
  | fin => exact Nat.le_refl _
  | step h1 h2 _ ih =>
    have := on _ _ h1 _ h2
    omega
def spCostsAhead : Sp := fun vs H Q _ => ∃ (M : List (List Mv4)) (n : Nat) (v : V), vs = [vN (n + 1), v] ∧ rL (rL rMv4) H v M ∧ M.length = n + 1 ∧ n ≤ 1000000 ∧ MOn M ∧
  ∀ (p : Addr) (H' : Hp) (row : CRow), Fe H H' → H p = none → H' p = some (.lst (row.map oV)) → LRow (n + 1) (Pth M n) row → Q (.ref p) H'
/-- whole operations from the places i, j to the ends -/
inductive Dst (b : Book) (t o : List Nat) : Nat → Nat → Nat → Prop
  | fin : Dst b t o t.length o.length 0
  | step {i j c d : Nat} {r w : List Nat} : (r, w, d) ∈ alle b → (t.drop i).take r.length = r → (o.drop j).take w.length = w → Dst b t o (i + r.length) (j + w.length) c → Dst b t o i j (d + c)
/-- no edit writes what it reads -/
def BNe (b : Book) : Prop := ∀ e ∈ b.2, e.1 ≠ e.2.1
theorem alle_ne {b : Book} (h : BNe b) {r w : List Nat} {d : Nat} (m : (r, w, d) ∈ alle b) : 0 < r.length + w.length := by
  unfold alle at m
  rcases List.mem_append.mp m with m | m
  · have := h _ m
    cases r with
    | nil => cases w with
      | nil => exact absurd rfl this
      | cons x w => simp
    | cons x r => simp; omega
  · obtain ⟨x, _, e⟩ := List.mem_map.mp m
    injection e with e1 e2
    rw [← e1]; simp; omega
theorem take_le {t r : List Nat} {i : Nat} (h : (t.drop i).take r.length = r) (hi : i ≤ t.length) : i + r.length ≤ t.length := by
  have := congrArg List.length h
  rw [List.length_take, List.length_drop] at this
  omega
theorem mtab_at {ops : List OpE} {t o : List Nat} {i j : Nat} (hi : i ≤ t.length) (hj : j ≤ o.length) : (mtab ops t o ((t.length + 1) * (o.length + 1)))[i * (o.length + 1) + j]? = some (mrow ops t o i j) := by
  unfold mtab
  have hk : i * (o.length + 1) + j < (t.length + 1) * (o.length + 1) := by
    have : i * (o.length + 1) ≤ t.length * (o.length + 1) := Nat.mul_le_mul_right _ hi
    rw [Nat.add_mul]; omega
  rw [List.getElem?_map, List.getElem?_range hk]
  show some (mrow ops t o ((i * (o.length + 1) + j) / (o.length + 1)) ((i * (o.length + 1) + j) % (o.length + 1))) = _
  rw [Nat.mul_comm, Nat.mul_add_div (by omega), Nat.mul_add_mod, Nat.div_eq_of_lt (by omega), Nat.mod_eq_of_lt (by omega)]
  rfl
theorem mrow_mem {ops : List OpE} {t o : List Nat} {i j : Nat} {e : Mv4} : e ∈ mrow ops t o i j ↔ ∃ r w d, (r, w, d) ∈ ops ∧ (t.drop i).take r.length = r ∧ (o.drop j).take w.length = w ∧ e = ((r, w), d, (i + r.length) * (o.length + 1) + j + w.length) := by
  unfold mrow
  rw [List.mem_filterMap]
  constructor
  · rintro ⟨⟨r, w, d⟩, h1, h2⟩
    unfold mvs at h2
    by_cases q : (t.drop i).take r.length = r ∧ (o.drop j).take w.length = w
    · rw [if_pos q] at h2
      exact ⟨r, w, d, h1, q.1, q.2, (Option.some.inj h2).symm⟩
    · rw [if_neg q] at h2; cases h2
  · rintro ⟨r, w, d, h1, h2, h3, rfl⟩
    exact ⟨(r, w, d), h1, if_pos ⟨h2, h3⟩⟩
theorem mtab_on {b : Book} (hne : BNe b) {ops : List OpE} (hop : ops.Perm (alle b)) (t o : List Nat) : MOn (mtab ops t o ((t.length + 1) * (o.length + 1))) := by
  intro k row hk e he
  have hl : (mtab ops t o ((t.length + 1) * (o.length + 1))).length = (t.length + 1) * (o.length + 1) := by unfold mtab; rw [List.length_map, List.length_range]
  have hkl := (List.getElem?_eq_some_iff.mp hk).1
  rw [hl] at hkl ⊢
  have hi : k / (o.length + 1) < t.length + 1 := Nat.div_lt_of_lt_mul (by rw [Nat.mul_comm]; exact hkl)
  have hj := Nat.mod_lt k (show 0 < o.length + 1 by omega)
  have hkk : k / (o.length + 1) * (o.length + 1) + k % (o.length + 1) = k := by rw [Nat.mul_comm]; exact Nat.div_add_mod k _
  generalize k / (o.length + 1) = i at hi hkk
  generalize k % (o.length + 1) = j at hj hkk
  subst hkk
  rw [mtab_at (by omega) (by omega)] at hk
  cases hk
  obtain ⟨r, w, d, h1, h2, h3, rfl⟩ := mrow_mem.mp he
  have h4 := take_le h2 (by omega)
  have h5 := take_le h3 (by omega)
  have h6 := alle_ne hne (hop.mem_iff.mp h1)
  show i * (o.length + 1) + j < (i + r.length) * (o.length + 1) + j + w.length ∧ (i + r.length) * (o.length + 1) + j + w.length < (t.length + 1) * (o.length + 1)
  constructor
  · rw [Nat.add_mul]
    by_cases q : r.length = 0
    · rw [q, Nat.zero_mul]; omega
    · have : 1 * (o.length + 1) ≤ r.length * (o.length + 1) := Nat.mul_le_mul_right _ (by omega)
      omega
  · have : (i + r.length) * (o.length + 1) ≤ t.length * (o.length + 1) := Nat.mul_le_mul_right _ h4
    rw [Nat.add_mul t.length]
    omega
theorem pth_dst {b : Book} (hne : BNe b) {ops : List OpE} (hop : ops.Perm (alle b)) {t o : List Nat} {i j c : Nat} (hi : i ≤ t.length) (hj : j ≤ o.length) :
    Pth (mtab ops t o ((t.length + 1) * (o.length + 1))) (t.length * (o.length + 1) + o.length) (i * (o.length + 1) + j) c ↔ Dst b t o i j c := by
  constructor
  · intro h
    generalize hk : i * (o.length + 1) + j = k at h
    induction h generalizing i j with
    | fin =>
      have e1 : i = t.length := by
        have a1 : (i * (o.length + 1) + j) / (o.length + 1) = (t.length * (o.length + 1) + o.length) / (o.length + 1) := by rw [hk]
        rw [Nat.mul_comm, Nat.mul_add_div (by omega), Nat.div_eq_of_lt (by omega), Nat.mul_comm, Nat.mul_add_div (by omega), Nat.div_eq_of_lt (by omega)] at a1
        omega
      subst e1
      have e2 : j = o.length := by omega
      subst e2
      exact .fin
    | step h1 h2 _ ih =>
      subst hk
      rw [mtab_at hi hj] at h1
      cases h1
      obtain ⟨r, w, d, g1, g2, g3, rfl⟩ := mrow_mem.mp h2
      have g4 := take_le g2 hi
      have g5 := take_le g3 hj
      exact .step (hop.mem_iff.mp g1) g2 g3 (ih g4 g5 (by rw [Nat.add_assoc]))
  · intro h
    induction h with
    | fin => exact .fin
    | @step i j c d r w h1 h2 h3 _ ih =>
      have g4 := take_le h2 hi
      have g5 := take_le h3 hj
      have := Pth.step (mtab_at (ops := ops) hi hj) (mrow_mem.mpr ⟨r, w, d, hop.mem_iff.mpr h1, h2, h3, rfl⟩) (e := ((r, w), d, (i + r.length) * (o.length + 1) + j + w.length)) (by
        have := ih g4 g5
        rw [← Nat.add_assoc] at this
        exact this)
      exact this
def spDistance : Sp := fun vs H Q _ => ∃ (b : Book) (t o : List Nat) (v1 : V), vs = [v1, .str ⟨t.toArray⟩, .str ⟨o.toArray⟩] ∧ rBook H v1 b ∧ BNe b ∧ b.2.length ≤ 100 ∧ b.1.length ≤ 100 ∧ t.length ≤ 500 ∧ o.length ≤ 500 ∧ (∀ e ∈ b.2, e.1.length ≤ 500 ∧ e.2.1.length ≤ 500) ∧
  ∀ H', Fe H H' → Q (oV (least (Dst b t o 0 0))) H'
section
variable {P : Program} {w : World} {K : PySem.W.Frag} {g : Str → Option Value} {base : Heap}
theorem ok_costs_ahead (T : Txt K g) : FnOk P w K g base CX0 1 T.d_costs_ahead.f T.d_costs_ahead.fd P_costs_ahead spCostsAhead := by
  refine T.d_costs_ahead.F.ok sc_costs_ahead (fun vs H Q E h => ?_) (fun cdv A outer s H vs Q E hr h => ?_)
  · obtain ⟨_, _, _, rfl, _⟩ := h
    rfl
  · obtain ⟨M, n, v, rfl, hM, hMl, hn, on, kk⟩ := h
    have hu := hu_of hr
    refine ⟨_, (pss_cons (ps_set (i := 2) sc_costs_ahead.nd rfl (by first | exact Or.inl rfl | exact Or.inr rfl) (pe_op op_rep (pe_lst (pa_cons pe_non pa_nil)) (pv 0)))
    (pss_cons (ps_asg pe_int (pg_sub (pv 2) (pe_op op_sub (pv 0) pe_int) set_list))
    (pss_cons (ps_for PassesOwn.never rfl (pi_revR rfl T.z_reversed (prg_1 rfl T.z_range (pe_op op_sub (pv 0) pe_int))) (pg_name (i := 3) sc_costs_ahead.nd rfl (by first | exact Or.inl rfl | exact Or.inr rfl))
      (pss_one (ps_for PassesOwn.never rfl (ki_list (K := K) rfl (pe_ix (kx_list (K := K) rfl) (pv 1) (pv 3) (fun _ _ => rfl))) (kg_tup (K := K) 3 rfl rfl (pgs_cons (pg_name (i := 4) sc_costs_ahead.nd rfl (by first | exact Or.inl rfl | exact Or.inr rfl)) (pgs_cons (pg_name (i := 5) sc_costs_ahead.nd rfl (by first | exact Or.inl rfl | exact Or.inr rfl)) (pgs_cons (pg_name (i := 6) sc_costs_ahead.nd rfl (by first | exact Or.inl rfl | exact Or.inr rfl)) pgs_nil))))
        (pss_one (ps_if (PW.pt (pw_and (pt_cmpR op_notN (pe_ix (kx_list (K := K) rfl) (pv 2) (pv 6) (fun _ _ => rfl)) pe_non (nomark _)) (pw_and1 (PW.pt (pw_or (pt_cmpR op_isN (pe_ix (kx_list (K := K) rfl) (pv 2) (pv 3) (fun _ _ => rfl)) pe_non (nomark _)) (pw_or1 (pt_cmpR op_lt (pe_op op_add (pv 5) (pe_ix (kx_list (K := K) rfl) (pv 2) (pv 6) (fun _ _ => rfl))) (pe_ix (kx_list (K := K) rfl) (pv 2) (pv 3) (fun _ _ => rfl)) (nomark _))))))))
          (pss_one (ps_asg (pe_op op_add (pv 5) (pe_ix (kx_list (K := K) rfl) (pv 2) (pv 6) (fun _ _ => rfl))) (pg_sub (pv 2) (pv 3) set_list)))
          pss_nil)))))
    (pss_one (ps_ret (pv 2)))))), ?_⟩
    obtain ⟨ma, ms, rfl, hma, hms⟩ := id hM
    refine ⟨by show 1 ≤ sizeLine; decide, fun p1 hp1 => ?_⟩
    have f1 : Fe H (upd H p1 (.lst [V.non])) := Fe.new hp1
    refine ⟨_, rfl, p1, _, _, rfl, rfl, upd_same, by omega, by omega, by rw [sizeLine_eq]; simp only [List.length_singleton]; omega, fun p hp => ?_⟩
    have en : (List.replicate (((n + 1 : Nat) : Int)).toNat [V.non]).flatten = (List.replicate (n + 1) none : CRow).map oV := by
      rw [rep_oV, Int.toNat_natCast]
    rw [en]
    have f2 := f1.trans (Fe.new (o := .lst ((List.replicate (n + 1) none : CRow).map oV)) hp)
    have hpn : H p = none := f1.free hp
    have hl0 : ((List.replicate (n + 1) none : CRow).map oV).length = n + 1 := by rw [List.length_map, List.length_replicate]
    refine ⟨_, rfl, _, rfl, _, _, rfl, rfl, p, _, _, n, rfl, congrArg V.int (show ((n + 1 : Nat) : Int) - 1 = (n : Int) by omega), upd_same, ixn (by rw [hl0]; omega), ?_⟩
    have f3 := f2.mut (o := .lst (((List.replicate (n + 1) none : CRow).map oV).set n (.int 0))) hpn
    have R0 : LRow (n + 1) (fun k c => n ≤ k ∧ Pth M n k c) ((List.replicate (n + 1) none : CRow).set n (some 0)) := by
      have := (LRow.nothing (n + 1)).put (to := n) (v := 0) (o := none) (by rw [List.getElem?_replicate, if_pos (by omega)]) bet_none
      refine this.imp (fun k c z => ?_) (fun k c z => ⟨c, .inr ?_, Nat.le_refl _⟩)
      · rcases z with z | ⟨rfl, rfl⟩
        · exact z.elim
        · exact ⟨Nat.le_refl _, .fin⟩
      · obtain ⟨z1, z2⟩ := z
        have := z2.le on
        have hk : k = n := by omega
        subst hk
        cases z2 with
        | fin => exact ⟨rfl, rfl⟩
        | step h1 h2 h3 =>
          have := on _ _ h1 _ h2
          have := h3.le on
          omega
    have hp3 : (upd (upd (upd H p1 (.lst [V.non])) p (.lst ((List.replicate (n + 1) none : CRow).map oV))) p (.lst (((List.replicate (n + 1) none : CRow).map oV).set n (.int 0)))) p = some (.lst (((List.replicate (n + 1) none : CRow).set n (some 0)).map oV)) := by
      rw [upd_same]
      exact congrArg (fun z => some (HO.lst z)) (set_oV _ n 0)
    generalize upd (upd (upd H p1 (.lst [V.non])) p (.lst ((List.replicate (n + 1) none : CRow).map oV))) p (.lst (((List.replicate (n + 1) none : CRow).map oV).set n (.int 0))) = H1 at f3 hp3 ⊢
    refine ⟨_, rfl, _, _, rfl, rfl, _, rfl, by omega, by omega, by omega, by omega, ?_⟩
    have hcn : ((((n + 1 : Nat) : Int) - 1) - 0).toNat = n := by omega
    refine for_rangeC (fun i σ' H' => ∃ (row : CRow) (o3 o4 o5 o6 : Option V), σ' = [some (vN (n + 1)), some (.ref ma), some (.ref p), o3, o4, o5, o6] ∧ Fe H H' ∧ H' p = some (.lst (row.map oV)) ∧ LRow (n + 1) (fun k c => n ≤ k + i ∧ Pth M n k c) row) ⟨_, _, _, _, _, rfl, f3, hp3, R0⟩ ?_ ?_
    · rintro i σ' H' hi ⟨row, o3, o4, o5, o6, rfl, e, hpv, R⟩
      have hi' : i < n := by rw [← hcn]; exact hi
      have hnode : (0 + (((((n + 1 : Nat) : Int) - 1 - 0).toNat : Nat) : Int) - 1 + (i : Int) * -1) = ((n - 1 - i : Nat) : Int) := by rw [hcn]; omega
      rw [hnode]
      have hk0 : n - 1 - i + i + 1 = n := by omega
      generalize n - 1 - i = k0 at hk0
      have hk0l : k0 < M.length := by omega
      have hMk : M[k0]? = some M[k0] := List.getElem?_eq_getElem hk0l
      generalize M[k0] = mv at hMk
      obtain ⟨x0, hx0, ra, ys, rfl, hra, hys⟩ := hms.at hMk
      refine ⟨_, rfl, _, rfl, ma, _, _, .ref ra, rfl, rfl, SqL.of (e.k hma), atI_nat hx0, ra, rfl, ⟨_, SqL.of (e.k hra)⟩, for_lst (xs := ys) (fun j σ' H' => ∃ (row : CRow) (o4 o5 o6 : Option V), σ' = [some (vN (n + 1)), some (.ref ma), some (.ref p), some (vN k0), o4, o5, o6] ∧ Fe H H' ∧ H' p = some (.lst (row.map oV)) ∧
        LRow (n + 1) (fun k c => (n ≤ k + i ∧ Pth M n k c) ∨ (k = k0 ∧ ∃ e ∈ mv.take j, ∃ c', Pth M n e.2.2 c' ∧ c = e.2.1 + c')) row) ⟨row, _, _, _, rfl, e, hpv, R.imp (fun _ _ => .inl) (fun k c z => by
          rcases z with z | ⟨_, e, z, _⟩
          · exact ⟨c, z, Nat.le_refl _⟩
          · exact nomatch z)⟩ (fun j σ' H' _ ⟨_, _, _, _, _, e, _⟩ => e.k hra) ?_ ?_⟩
      · clear e hpv R
        rintro j x σ' H3 hx ⟨row, o4, o5, o6, rfl, e, hpv, R⟩
        obtain ⟨ed, hed, hxr⟩ := (Al.me e hys).get hx
        obtain ⟨u, x1, x2, x3, rfl, hu1, _, rfl, rfl⟩ := id hxr
        have hedm := List.mem_of_getElem? hed
        obtain ⟨on1, on2⟩ := on _ _ hMk _ hedm
        obtain ⟨⟨op1, op2⟩, cost, to⟩ := ed
        have on1 : k0 < to := on1
        have on2 : to < M.length := on2
        have htk : mv.take (j + 1) = mv.take j ++ [((op1, op2), cost, to)] := by rw [List.take_add_one, hed]; rfl
        obtain ⟨oto, hoto⟩ : ∃ oo, row[to]? = some oo := ⟨row[to]'(by rw [R.len]; omega), List.getElem?_eq_getElem (by rw [R.len]; omega)⟩
        obtain ⟨on0, hon0⟩ : ∃ oo, row[k0]? = some oo := ⟨row[k0]'(by rw [R.len]; omega), List.getElem?_eq_getElem (by rw [R.len]; omega)⟩
        have hk0n : k0 < (row.map oV).length := by rw [List.length_map, R.len]; omega
        have hleast : Least (Pth M n to) oto := (R.least hoto).congr fun c => by
          constructor
          · rintro (z | ⟨z, _⟩)
            · exact z.2
            · omega
          · exact fun z => .inl ⟨by omega, z⟩
        have stay : (∀ c, oto = some c → ¬ Bet on0 (cost + c)) → LRow (n + 1) (fun k c => (n ≤ k + i ∧ Pth M n k c) ∨ (k = k0 ∧ ∃ e ∈ mv.take (j + 1), ∃ c', Pth M n e.2.2 c' ∧ c = e.2.1 + c')) row := by
          intro hb
          refine R.imp (fun k c z => z.imp id fun ⟨z1, e, z2, z3⟩ => ⟨z1, e, by rw [htk]; exact List.mem_append_left _ z2, z3⟩) (fun k c z => ?_)
          rcases z with z | ⟨rfl, e, z2, c', z3, rfl⟩
          · exact ⟨c, .inl z, Nat.le_refl _⟩
          · rw [htk] at z2
            rcases List.mem_append.mp z2 with z2 | z2
            · exact ⟨_, .inr ⟨rfl, e, z2, c', z3, rfl⟩, Nat.le_refl _⟩
            · rw [List.mem_singleton.mp z2] at z3 ⊢
              cases oto with
              | none => exact absurd z3 (hleast c')
              | some c0 =>
                have h1 := hleast.2 c' z3
                have h2 := hb c0 rfl
                cases on0 with
                | none => exact absurd bet_none h2
                | some d =>
                  have h3 := R.snd k d hon0
                  refine ⟨d, h3, ?_⟩
                  have : ¬ cost + c0 < d := fun z => h2 (bet_some.mpr z)
                  show d ≤ cost + c'
                  omega
        refine ⟨u, _, rfl, SqT.of hu1, rfl, _, _, rfl, _, _, rfl, _, _, rfl, rfl, ?_⟩
        refine ⟨_, rfl, _, rfl, p, _, _, _, rfl, rfl, SqL.of hpv, atI_nat (at_oV hoto), rfl, _, rfl, ?_⟩
        cases oto with
        | none =>
          refine iteF ?_
          have fin : ∃ (row : CRow) (o4 o5 o6 : Option V), [some (vN (n + 1)), some (.ref ma), some (.ref p), some (vN k0), some x1, some (vN cost), some (vN to)] = [some (vN (n + 1)), some (.ref ma), some (.ref p), some (vN k0), o4, o5, o6] ∧ Fe H H3 ∧ H3 p = some (.lst (row.map oV)) ∧
            LRow (n + 1) (fun k c => (n ≤ k + i ∧ Pth M n k c) ∨ (k = k0 ∧ ∃ e ∈ mv.take (j + 1), ∃ c', Pth M n e.2.2 c' ∧ c = e.2.1 + c')) row := ⟨row, _, _, _, rfl, e, hpv, stay fun c z => nomatch z⟩
          first | exact fin | exact iteF fin
        | some c0 =>
          refine iteT ?_
          have better : Bet on0 (cost + c0) → ∃ (row' : CRow) (o4 o5 o6 : Option V), [some (vN (n + 1)), some (.ref ma), some (.ref p), some (vN k0), some x1, some (vN cost), some (vN to)] = [some (vN (n + 1)), some (.ref ma), some (.ref p), some (vN k0), o4, o5, o6] ∧ Fe H (upd H3 p (.lst ((row.map oV).set k0 (vN (cost + c0))))) ∧ (upd H3 p (.lst ((row.map oV).set k0 (vN (cost + c0))))) p = some (.lst (row'.map oV)) ∧
            LRow (n + 1) (fun k c => (n ≤ k + i ∧ Pth M n k c) ∨ (k = k0 ∧ ∃ e ∈ mv.take (j + 1), ∃ c', Pth M n e.2.2 c' ∧ c = e.2.1 + c')) row' := by
            intro hb
            refine ⟨row.set k0 (some (cost + c0)), _, _, _, rfl, e.mut hpn, by rw [upd_same, set_oV], (R.put hon0 hb).imp (fun k c z => ?_) (fun k c z => ?_)⟩
            · rcases z with (z | ⟨z1, ee, z2, z3⟩) | ⟨z1, z2⟩
              · exact .inl z
              · exact .inr ⟨z1, ee, by rw [htk]; exact List.mem_append_left _ z2, z3⟩
              · exact .inr ⟨z1, _, by rw [htk]; exact List.mem_append_right _ (List.mem_singleton.mpr rfl), c0, hleast.1, z2⟩
            · rcases z with z | ⟨z1, ee, z2, c', z3, z4⟩
              · exact ⟨c, .inl (.inl z), Nat.le_refl _⟩
              · rw [htk] at z2
                rcases List.mem_append.mp z2 with z2 | z2
                · exact ⟨c, .inl (.inr ⟨z1, ee, z2, c', z3, z4⟩), Nat.le_refl _⟩
                · rw [List.mem_singleton.mp z2] at z3 z4
                  have h1 := hleast.2 c' z3
                  have z4 : c = cost + c' := z4
                  exact ⟨cost + c0, .inr ⟨z1, rfl⟩, by omega⟩
          refine ⟨_, rfl, _, rfl, p, _, _, _, rfl, rfl, SqL.of hpv, atI_nat (at_oV hon0), rfl, _, rfl, ?_⟩
          cases on0 with
          | none =>
            refine iteT ?_
            refine iteT ?_
            refine ⟨_, rfl, _, rfl, _, rfl, p, _, _, _, rfl, rfl, SqL.of hpv, atI_nat (at_oV hoto), _, _, rfl, rfl, _, rfl, _, rfl, p, _, _, _, rfl, rfl, hpv, ixn hk0n, ?_⟩
            exact better bet_none
          | some d =>
            refine iteF ?_
            refine ⟨_, rfl, _, rfl, _, rfl, p, _, _, _, rfl, rfl, SqL.of hpv, atI_nat (at_oV hoto), _, _, rfl, rfl, _, rfl, _, rfl, p, _, _, _, rfl, rfl, SqL.of hpv, atI_nat (at_oV hon0), _, _, rfl, rfl, _, rfl, ?_⟩
            by_cases hb : cost + c0 < d
            · rw [decide_eq_true (show ((cost : Int) + (c0 : Int) < (d : Int)) by omega)]
              refine iteT ?_
              refine ⟨_, rfl, _, rfl, _, rfl, p, _, _, _, rfl, rfl, SqL.of hpv, atI_nat (at_oV hoto), _, _, rfl, rfl, _, rfl, _, rfl, p, _, _, _, rfl, rfl, hpv, ixn hk0n, ?_⟩
              exact better (bet_some.mpr hb)
            · rw [decide_eq_false (show ¬ ((cost : Int) + (c0 : Int) < (d : Int)) by omega)]
              exact iteF ⟨row, _, _, _, rfl, e, hpv, stay fun c z => by cases z; exact fun z => hb (bet_some.mp z)⟩
      · rintro σ' H3 ⟨row, o4, o5, o6, rfl, e, hpv, R⟩
        rw [hys.len, List.take_length] at R
        refine ⟨row, _, _, _, _, rfl, e, hpv, R.imp (fun k c z => ?_) (fun k c z => ⟨c, ?_, Nat.le_refl _⟩)⟩
        · rcases z with z | ⟨rfl, ee, z2, c', z3, rfl⟩
          · exact ⟨by omega, z.2⟩
          · exact ⟨by omega, .step hMk z2 z3⟩
        · by_cases q : k = k0
          · subst q
            obtain ⟨_, z2⟩ := z
            cases z2 with
            | fin => omega
            | step h1 h2 h3 =>
              rw [hMk] at h1; cases h1
              exact .inr ⟨rfl, _, h2, _, h3, rfl⟩
          · exact .inl ⟨by omega, z.2⟩
    · rintro σ' H' ⟨row, o3, o4, o5, o6, rfl, e, hpv, R⟩
      refine ⟨_, rfl, kk p H' row e hpn hpv (R.imp (fun k c z => z.2) fun k c z => ⟨c, ⟨by omega, z⟩, Nat.le_refl _⟩)⟩
theorem ok_distance_of (T : Txt K g) : FnOk P w K g base CX0 2 T.d_distance_of.f T.d_distance_of.fd P_distance_of spDistance := by
  refine T.d_distance_of.F.ok sc_distance_of (fun vs H Q E h => ?_) (fun cdv A outer s H vs Q E hr h => ?_)
  · obtain ⟨_, _, _, _, rfl, _⟩ := h
    rfl
  · obtain ⟨b, t, o, v1, rfl, hb, hne, h1, h2, ht, ho, hl, kk⟩ := h
    have hu := hu_of hr
    refine ⟨_, (pss_cons (ps_asg (pe_call (ok_pair_moves T) (hr.mono (by decide)) rfl T.d_pair_moves.mg T.d_pair_moves.kp T.d_pair_moves.b .nil pass0 (pa_cons (pv 0) (pa_cons (pv 1) (pa_cons (pv 2) pa_nil)))) (kg_tup (K := K) 2 rfl rfl (pgs_cons (pg_name (i := 3) sc_distance_of.nd rfl (by first | exact Or.inl rfl | exact Or.inr rfl)) (pgs_cons (pg_name (i := 4) sc_distance_of.nd rfl (by first | exact Or.inl rfl | exact Or.inr rfl)) pgs_nil))))
    (pss_one (ps_ret (pe_ix (kx_list (K := K) rfl) (pe_call (ok_costs_ahead T) (hr.mono (by decide)) rfl T.d_costs_ahead.mg T.d_costs_ahead.kp T.d_costs_ahead.b .nil pass0 (pa_cons (pv 3) (pa_cons (pv 4) pa_nil))) pe_int (fun _ _ => rfl))))), ?_⟩
    refine ⟨_, rfl, _, rfl, _, rfl, b, t, o, v1, rfl, hb, h1, h2, ht, ho, hl, fun H1 Z v ops e1 hZ hop hm => ?_⟩
    refine ⟨Z, _, rfl, SqT.of hZ, rfl, _, _, rfl, _, _, rfl, rfl, ?_⟩
    have hmn : (t.length + 1) * (o.length + 1) = t.length * (o.length + 1) + o.length + 1 := by rw [Nat.add_mul]; omega
    have hb2 : t.length * (o.length + 1) ≤ 500 * 501 := Nat.mul_le_mul ht (by omega)
    refine ⟨_, rfl, _, rfl, mtab ops t o ((t.length + 1) * (o.length + 1)), t.length * (o.length + 1) + o.length, v, by rw [hmn]; rfl, hm, by unfold mtab; rw [List.length_map, List.length_range, hmn], by omega, mtab_on hne hop t o, fun p H2 row e2 hp hpv hL => ?_⟩
    obtain ⟨o0, ho0⟩ : ∃ oo, row[0]? = some oo := ⟨row[0]'(by rw [hL.len]; omega), List.getElem?_eq_getElem (by rw [hL.len]; omega)⟩
    refine ⟨p, _, _, oV o0, rfl, rfl, SqL.of hpv, atI_nat (j := 0) (at_oV ho0), ?_⟩
    have := kk H2 (e1.trans e2)
    rw [least_eq ((hL.least ho0).congr fun c => ?_)] at this
    · exact this
    · have q := pth_dst hne hop (t := t) (o := o) (i := 0) (j := 0) (c := c) (Nat.zero_le _) (Nat.zero_le _)
      rw [Nat.zero_mul] at q
      exact q
end
end Fm
namespace Fm
open PySem L2
def spLettersM : Sp := fun vs H Q _ => ∃ (p g : Addr) (n : Nat), vs = [.ref p, .int (n : Int)] ∧ Pl H p g ∧ n ≤ 20 ∧ ∀ (l : List Nat) (H' : Hp), Fx [p, g] H H' → Pl H' p g → l.Nodup → l.length = n → Q (.str ⟨l.toArray⟩) H'
def spWord : Sp := fun vs H Q _ => ∃ (p g : Addr) (ls : List Nat) (lo hi : Nat), vs = [.ref p, .str ⟨ls.toArray⟩, .int (lo : Int), .int (hi : Int)] ∧ Pl H p g ∧ ls ≠ [] ∧ ls.length ≤ 1000 ∧ lo ≤ hi ∧ hi ≤ 1000 ∧ ∀ (t : List Nat) (H' : Hp), Fx [p, g] H H' → Pl H' p g → (∀ x ∈ t, x ∈ ls) → lo ≤ t.length → t.length ≤ hi → Q (.str ⟨t.toArray⟩) H'
section
variable {P : Program} {w : World} {K : PySem.W.Frag} {g : Str → Option Value} {base : Heap}
theorem ok_law_letters (T : Txt K g) : FnOk P w K g base CX0 2 T.d_law_letters.f T.d_law_letters.fd P_law_letters spLettersM := by
  refine T.d_law_letters.F.ok sc_law_letters (fun vs H Q E h => ?_) (fun cdv A outer s H vs Q E hr h => ?_)
  · obtain ⟨_, _, _, rfl, _⟩ := h
    rfl
  · obtain ⟨p, g, n, rfl, hP, hn, kk⟩ := h
    have hu := hu_of hr
    refine ⟨_, (pss_cons (ps_set (i := 2) sc_law_letters.nd rfl (by first | exact Or.inl rfl | exact Or.inr rfl) (pe_callTy (kc_listS rfl) (by rfl) T.z_list (by decide +kernel) (pa_cons pe_str pa_nil)))
    (pss_cons (ps_set (i := 3) sc_law_letters.nd rfl (by first | exact Or.inl rfl | exact Or.inr rfl) (pe_lst pa_nil))
    (pss_cons (ps_for PassesOwn.never rfl (pi_range1 rfl T.z_range (pa_cons (pv 1) pa_nil)) (pg_name (i := 4) sc_law_letters.nd rfl (by first | exact Or.inl rfl | exact Or.inr rfl))
      (pss_one (ps_expr (ke_bm (K := K) rfl PySem.F.plainAttrs_list PySem.F.slot_list_append PySem.F.type_list_append mt_append (pv 3) (pa_cons (ke_bm (K := K) rfl PySem.F.plainAttrs_list PySem.F.slot_list_pop PySem.F.type_list_pop mt_popAt (pv 2) (pa_cons (pe_call (ok_law_draw T) (hr.mono (by decide)) rfl T.d_law_draw.mg T.d_law_draw.kp T.d_law_draw.b .nil pass0 (pa_cons (pv 0) (pa_cons (pe_callB (kc_len (K := K) rfl) (by rfl) T.z_len PySem.boot_len (pa_cons (pv 2) pa_nil)) pa_nil))) pa_nil)) pa_nil)))))
    (pss_one (ps_ret (pe_join pe_str (pe_callB (kc_sortedS (K := K) rfl) (by rfl) T.z_sorted (by decide +kernel) (pa_cons (pv 3) pa_nil)))))))), ?_⟩
    refine ⟨alph, by rw [← alph_eq], by decide +kernel, fun L hL => ⟨Nat.zero_le _, fun F hF => ?_⟩⟩
    have hLF : L ≠ F := ne_of_none upd_same hF
    have f0 : Fe H (upd (upd H L (.lst (alph.map s1))) F (.lst [])) := (Fe.new hL).trans (Fe.new hF)
    have P0 := hP.keep f0
    have hF0 : H F = none := (Fe.new hL).free hF
    have nL := hP.nw hL
    have nF := hP.nw hF0
    refine ⟨_, rfl, _, rfl, by omega, by omega, ?_⟩
    have hcn : ((n : Nat) : Int).toNat = n := by omega
    rw [hcn]
    refine for_range (lo := 0) (n := n) (fun i σ' H' => ∃ (lf fd : List Nat) (o4 : Option V), σ' = [some (.ref p), some (.int (n : Int)), some (.ref L), some (.ref F), o4] ∧ Fx [p, g] H H' ∧ Pl H' p g ∧ H' L = some (.lst (lf.map s1)) ∧ H' F = some (.lst (fd.map s1)) ∧ (fd ++ lf).Nodup ∧ fd.length + lf.length = 26 ∧ fd.length = i)
      ⟨alph, [], none, rfl, f0.to, P0, (by rw [upd_ne hLF]; exact upd_same), upd_same, alph_nd, by decide +kernel, rfl⟩ ?_ ?_
    · rintro i σ' H' hi ⟨lf, fd, o4, rfl, f2, P2, h1, h2, nd, h26, hl⟩
      refine ⟨_, rfl, .inl ⟨rfl, _, SqL.of h2⟩, _, rfl, .inl ⟨rfl, _, SqL.of h1⟩, _, rfl, _, rfl, L, _, rfl, .inl (SqL.of h1), ?_⟩
      refine ⟨p, g, lf.length, by rw [List.length_map]; rfl, P2, by omega, by omega, fun k H3 f3 P3 hk => ?_⟩
      have h13 := f3.keep _ _ nL h1
      have h23 := f3.keep _ _ nF h2
      have hlk : lf[k]? = some lf[k] := List.getElem?_eq_getElem hk
      revert hlk
      generalize lf[k] = y
      intro hlk
      have pm := erase_at hlk
      have hk' : k < (lf.map s1).length := by rw [List.length_map]; exact hk
      refine ⟨L, _, _, k, s1 y, rfl, rfl, h13, by omega, by omega, (ixN_seq (ixn hk')).1, by rw [List.getElem?_map, hlk]; rfl, F, fd.map s1, _, rfl, rfl, ?_, by rw [List.length_map, sizeLine_eq]; omega, ?_⟩
      · rw [upd_ne hLF.symm]; exact h23
      have hpl := pm.length_eq
      rw [List.length_cons] at hpl
      refine ⟨lf.eraseIdx k, fd ++ [y], _, rfl, ((f2.trans f3).mu hL).mu hF0, (P3.put nL).put nF, ?_, by rw [upd_same, List.map_append]; rfl, ?_, by rw [List.length_append, List.length_singleton]; omega, by rw [List.length_append, List.length_singleton]; omega⟩
      · rw [upd_ne hLF, upd_same, map_erase]
      · rw [List.append_assoc]
        exact (pm.append_left fd).nodup_iff.mpr nd
    · rintro σ' H' ⟨lf, fd, o4, rfl, f2, P2, h1, h2, nd, h26, hl⟩
      refine ⟨⟨_, rfl⟩, _, rfl, F, fd.map fun c => SX.S [c], rfl, by rw [List.map_map]; exact SqL.of h2, by rw [List.length_map]; omega, fun ys q hpm hsrt hq => ?_⟩
      obtain ⟨l, rfl, hpl⟩ := perm_strs (ys := ys) (ks := fd.map fun c => [c]) (by rw [List.map_map]; exact hpm)
      obtain ⟨l2, rfl, hpl2⟩ := perm_lift (fun c : Nat => [c]) hpl fd rfl
      have hll := hpl2.length_eq
      refine ⟨_, q, _, rfl, rfl, .inl (SqL.of upd_same), ?_, ?_⟩
      · have : ∀ l : List Nat, (((l.map fun c => [c]).map sS).map (·.length)).sum = l.length := by
          intro l
          induction l with
          | nil => rfl
          | cons x l ih => rw [List.map_cons, List.map_cons, List.map_cons, List.sum_cons, ih, List.length_cons]; show 1 + l.length = l.length + 1; omega
        rw [this, List.length_map, List.length_map]
        show _ + _ * 0 ≤ _
        omega
      · rw [str_nil]
        show Q (.str (PySem.Txt.join ⟨([] : List Nat).toArray⟩ ((l2.map fun c => [c]).map SX.S))) _
        rw [join_chars]
        exact kk l2 _ (f2.trans (Fe.new hq).to) (P2.keep (Fe.new hq)) (hpl2.nodup_iff.mpr (List.nodup_append.mp nd).1) (by omega)
theorem ok_law_word (T : Txt K g) : FnOk P w K g base CX0 2 T.d_law_word.f T.d_law_word.fd P_law_word spWord := by
  refine T.d_law_word.F.ok sc_law_word (fun vs H Q E h => ?_) (fun cdv A outer s H vs Q E hr h => ?_)
  · obtain ⟨_, _, _, _, _, rfl, _⟩ := h
    rfl
  · obtain ⟨p, g, ls, lo, hi, rfl, hP, hls, hl1, hlo, hhi, kk⟩ := h
    have hu := hu_of hr
    refine ⟨_, (pss_cons (ps_set (i := 4) sc_law_word.nd rfl (by first | exact Or.inl rfl | exact Or.inr rfl) pe_str)
    (pss_cons (ps_for PassesOwn.never rfl (pi_range1 rfl T.z_range (pa_cons (pe_op op_add (pv 2) (pe_call (ok_law_draw T) (hr.mono (by decide)) rfl T.d_law_draw.mg T.d_law_draw.kp T.d_law_draw.b .nil pass0 (pa_cons (pv 0) (pa_cons (pe_op op_add (pe_op op_sub (pv 3) (pv 2)) pe_int) pa_nil)))) pa_nil)) (pg_name (i := 5) sc_law_word.nd rfl (by first | exact Or.inl rfl | exact Or.inr rfl))
      (pss_one (ps_set (i := 4) sc_law_word.nd rfl (by first | exact Or.inl rfl | exact Or.inr rfl) (pe_op op_add_str (pv 4) (pe_ix ix_str (pv 1) (pe_call (ok_law_draw T) (hr.mono (by decide)) rfl T.d_law_draw.mg T.d_law_draw.kp T.d_law_draw.b .nil pass0 (pa_cons (pv 0) (pa_cons (pe_callB kc_lenS (by rfl) T.z_len PySem.boot_len (pa_cons (pv 1) pa_nil)) pa_nil))) (fun _ _ => rfl))))))
    (pss_one (ps_ret (pv 4))))), ?_⟩
    refine ⟨_, rfl, _, rfl, _, rfl, _, rfl, _, _, rfl, rfl, _, _, rfl, rfl, p, g, hi - lo + 1, congrArg (fun z => [V.ref p, V.int z]) (show ((hi : Int) - (lo : Int) + 1) = ((hi - lo + 1 : Nat) : Int) by omega), hP, by omega, by omega, fun r H1 f1 P1 hr1 => ⟨_, _, rfl, rfl, _, rfl, by omega, by omega, ?_⟩⟩
    have hcn : ((lo : Int) + (r : Int)).toNat = lo + r := by omega
    rw [hcn]
    refine for_range (lo := 0) (n := lo + r) (fun i σ' H' => ∃ (t : List Nat) (o5 : Option V), σ' = [some (.ref p), some (.str ⟨ls.toArray⟩), some (.int (lo : Int)), some (.int (hi : Int)), some (.str ⟨t.toArray⟩), o5] ∧ Fx [p, g] H H' ∧ Pl H' p g ∧ (∀ x ∈ t, x ∈ ls) ∧ t.length = i)
      ⟨[], none, by rw [← str_nil]; rfl, f1, P1, (fun _ z => nomatch z), rfl⟩ ?_ ?_
    · rintro i σ' H' hi ⟨t, o5, rfl, f2, P2, ht, hl⟩
      have hpos : 0 < ls.length := List.length_pos_iff.mpr hls
      refine ⟨_, rfl, _, rfl, _, rfl, _, rfl, _, rfl, by rw [slen, sizeLine_eq]; omega, p, g, ls.length, by rw [slen]; rfl, P2, hpos, by omega, fun k H3 f3 P3 hk => ?_⟩
      have hlk : ls[k]? = some ls[k] := List.getElem?_eq_getElem hk
      refine ⟨_, _, ls[k], rfl, rfl, by rw [slen, sizeLine_eq]; omega, atI_nat hlk, _, _, rfl, rfl, by rw [slen, sizeLine_eq]; show t.length + 1 ≤ _; omega, ?_⟩
      refine ⟨t ++ [ls[k]], _, by rw [str_app]; rfl, f2.trans f3, P3, fun x hx => ?_, by rw [List.length_append, List.length_singleton]; omega⟩
      rcases List.mem_append.mp hx with hx | hx
      · exact ht x hx
      · rw [List.mem_singleton.mp hx]; exact List.getElem_mem hk
    · rintro σ' H' ⟨t, o5, rfl, f2, P2, ht, hl⟩
      exact ⟨_, rfl, kk t H' f2 P2 ht (by omega) (by omega)⟩
end
end Fm
/-! the tree of words -/
namespace Fm
open PySem L2
abbrev TrE := Nat × Nat × Nat × Bool
def tkey (e : TrE) : List Key := if e.2.2.2 then [kN e.1, kS [e.2.1], kN 0] else [kN e.1, kS [e.2.1]]
def tkvs (E : List TrE) : List (List Key × V) := E.map fun e => (tkey e, vN e.2.2.1)
def StE (E : List TrE) (q x p : Nat) : Prop := (q, x, p, false) ∈ E
structure TrI (ls : List Nat) (n : Nat) (E : List TrE) : Prop where
  lt : ∀ e ∈ E, e.1 < n ∧ e.2.2.1 < n ∧ e.2.1 ∈ ls
  ag : ∀ e ∈ E, e.2.2.2 = true → e.2.2.1 = 0
  nd : (E.map tkey).Nodup
theorem TrI.wk {ls : List Nat} {n n' : Nat} {E : List TrE} (t : TrI ls n E) (h : n ≤ n') : TrI ls n' E := ⟨fun e he => ⟨Nat.lt_of_lt_of_le (t.lt e he).1 h, Nat.lt_of_lt_of_le (t.lt e he).2.1 h, (t.lt e he).2.2⟩, t.ag, t.nd⟩
theorem tkvs_val {E : List TrE} {k : List Key} {v : V} (h : valV (tkvs E) k = some v) : ∃ e ∈ E, tkey e = k ∧ v = vN e.2.2.1 := by
  induction E with
  | nil => cases h
  | cons e E ih =>
    by_cases q : tkey e = k
    · rw [show tkvs (e :: E) = (tkey e, vN e.2.2.1) :: tkvs E from rfl, valV_pos q] at h
      exact ⟨e, List.mem_cons_self, q, (Option.some.inj h).symm⟩
    · rw [show tkvs (e :: E) = (tkey e, vN e.2.2.1) :: tkvs E from rfl, valV_neg q] at h
      obtain ⟨e', h1, h2⟩ := ih h
      exact ⟨e', List.mem_cons_of_mem _ h1, h2⟩
theorem tkvs_none {E : List TrE} {k : List Key} (h : valV (tkvs E) k = none) : ∀ e ∈ E, tkey e ≠ k := by
  intro e he z
  have := valV_not h
  refine this (List.mem_map.mpr ⟨(tkey e, vN e.2.2.1), List.mem_map.mpr ⟨e, he, rfl⟩, z⟩)
theorem tkvs_at {E : List TrE} (nd : (E.map tkey).Nodup) {e : TrE} (he : e ∈ E) : valV (tkvs E) (tkey e) = some (vN e.2.2.1) := by
  induction E with
  | nil => exact nomatch he
  | cons e' E ih =>
    rw [List.map_cons, List.nodup_cons] at nd
    rcases List.mem_cons.mp he with rfl | he
    · exact valV_pos rfl
    · have : tkey e' ≠ tkey e := fun z => nd.1 (z ▸ List.mem_map.mpr ⟨e, he, rfl⟩)
      rw [show tkvs (e' :: E) = (tkey e', vN e'.2.2.1) :: tkvs E from rfl, valV_neg this]
      exact ih nd.2 he
theorem TrI.snoc {ls : List Nat} {n : Nat} {E : List TrE} (t : TrI ls n E) {e : TrE} (h : valV (tkvs E) (tkey e) = none) (hl : e.1 < n ∧ e.2.2.1 < n ∧ e.2.1 ∈ ls) (ha : e.2.2.2 = true → e.2.2.1 = 0) : TrI ls n (E ++ [e]) where
  lt := fun e' he => by
    rcases List.mem_append.mp he with he | he
    · exact t.lt e' he
    · rw [List.mem_singleton.mp he]; exact hl
  ag := fun e' he => by
    rcases List.mem_append.mp he with he | he
    · exact t.ag e' he
    · rw [List.mem_singleton.mp he]; exact ha
  nd := by
    rw [List.map_append, List.nodup_append]
    refine ⟨t.nd, by simp, fun a ha b hb e0 => ?_⟩
    rw [List.mem_singleton.mp hb] at e0
    subst e0
    obtain ⟨e', h1, h2⟩ := List.mem_map.mp ha
    exact tkvs_none h e' h1 h2
theorem tkvs_put {E : List TrE} {e : TrE} (h : valV (tkvs E) (tkey e) = none) : putK (tkvs E) (tkey e) (vN e.2.2.1) = tkvs (E ++ [e]) := by
  rw [putK_new _ h]
  unfold tkvs
  rw [List.map_append]; rfl
theorem tkvs_same {E : List TrE} {k : List Key} {v : V} (h : valV (tkvs E) k = some v) (hv : ∀ e ∈ E, tkey e = k → vN e.2.2.1 = v) : putK (tkvs E) k v = tkvs E := by
  unfold putK
  rw [if_pos (by rw [valV_any, h]; rfl)]
  conv => rhs; rw [← List.map_id (tkvs E)]
  refine List.map_congr_left fun kv hkv => ?_
  obtain ⟨e, he, rfl⟩ := List.mem_map.mp hkv
  by_cases q : tkey e = k
  · show (if tkey e = k then (tkey e, v) else _) = _
    rw [if_pos q, hv e he q]; rfl
  · show (if tkey e = k then _ else _) = _
    rw [if_neg q]; rfl
theorem key2_inj {a x t : Nat} {e : TrE} (h : tkey e = tkey (a, x, t, false)) : e.1 = a ∧ e.2.1 = x ∧ e.2.2.2 = false := by
  obtain ⟨a', x', t', g⟩ := e
  cases g with
  | true => simp [tkey] at h
  | false =>
    simp only [tkey, Bool.false_eq_true, if_false] at h
    injection h with h1 h
    injection h with h2 _
    have := kS_inj _ _ h2
    injection this with this _
    exact ⟨kN_inj _ _ h1, this, rfl⟩
theorem key3_ag {a x t : Nat} {e : TrE} (h : tkey e = tkey (a, x, t, true)) : e.2.2.2 = true := by
  obtain ⟨a', x', t', g⟩ := e
  cases g with
  | true => rfl
  | false => simp [tkey] at h
theorem Lead.mono' {E F : Nat → Nat → Nat → Prop} (h : ∀ q x p, E q x p → F q x p) : ∀ {t : List Nat} {q p : Nat}, Lead E t q p → Lead F t q p
  | [], _, _, z => z
  | _ :: _, _, _, ⟨r, h1, h2⟩ => ⟨r, h _ _ _ h1, Lead.mono' h h2⟩
theorem steps_back2 {H H3 : Hp} {sts : List (Nat × Nat × Nat)} {ks L L' : TL} (hk : ∀ p ∈ ks, ∃ x, x ∈ sts ∧ p.2 = stK x ∧ H p.1 = some (.tup (p.2.map kV))) (hsub : ∀ p ∈ L, p ∈ ks) (hpm : L'.Perm L) (hcov : ∀ p ∈ ks, ∃ q ∈ L, q.2 = p.2) (f : Fe H H3) :
    ∃ ys, Al rStep H3 (L'.map fun p => V.ref p.1) ys ∧ (∀ y ∈ ys, y ∈ sts) ∧ ys.length = L.length ∧ ∀ x ∈ sts, (∃ p ∈ ks, p.2 = stK x) → x ∈ ys := by
  obtain ⟨ys, h1, h2, h3⟩ := tl_back (r := rStep) stK (fun a x h => step_back h) sts L' fun p hp => by
    obtain ⟨x, hx, e, h⟩ := hk p (hsub p (hpm.mem_iff.mp hp))
    exact ⟨x, hx, e, f.k h⟩
  refine ⟨ys, h1, h2, ?_, fun x hx ⟨p, hp, e⟩ => ?_⟩
  · have := congrArg List.length h3
    rw [List.length_map, List.length_map, hpm.length_eq] at this
    exact this
  · obtain ⟨q, hq, e2⟩ := hcov p hp
    have : stK x ∈ L'.map (·.2) := List.mem_map.mpr ⟨q, hpm.mem_iff.mpr hq, e2.trans e⟩
    rw [← h3] at this
    obtain ⟨y, hy, e3⟩ := List.mem_map.mp this
    have : y = x := by
      obtain ⟨a, b, c⟩ := y
      obtain ⟨a', b', c'⟩ := x
      simp only [stK] at e3
      injection e3 with k1 e3
      injection e3 with k2 e3
      injection e3 with k3 _
      have := kS_inj _ _ k2
      injection this with this _
      rw [kN_inj _ _ k1, this, kN_inj _ _ k3]
    exact this ▸ hy
theorem tl_ofx {α : Type} {r : Rp α} {H : Hp} (f : α → List Key) (hr : ∀ v x, r H v x → ∃ a, v = .ref a ∧ H a = some (.tup ((f x).map kV))) : ∀ {vs : List V} {xs : List α}, Al r H vs xs →
    ∃ ks : TL, vs = ks.map (fun p => V.ref p.1) ∧ ks.map (·.2) = xs.map f ∧ ∀ p ∈ ks, ∃ x, x ∈ xs ∧ p.2 = f x ∧ H p.1 = some (.tup (p.2.map kV))
  | [], [], .nil => ⟨[], rfl, rfl, fun _ z => nomatch z⟩
  | _ :: _, x :: _, .cons h t => by
    obtain ⟨ks, e, hl, hk⟩ := tl_ofx f hr t
    obtain ⟨a, rfl, ha⟩ := hr _ _ h
    refine ⟨(a, f x) :: ks, by rw [e]; rfl, by rw [List.map_cons, List.map_cons, hl], fun p hp => ?_⟩
    rcases List.mem_cons.mp hp with rfl | hp
    · exact ⟨x, List.mem_cons_self, rfl, ha⟩
    · obtain ⟨y, h1, h2⟩ := hk p hp
      exact ⟨y, List.mem_cons_of_mem _ h1, h2⟩
def spTree : Sp := fun vs H Q _ => ∃ (words : List (List Nat)) (ls : List Nat) (ag : Bool) (v1 : V), vs = [v1, .bl ag] ∧ rL rS H v1 words ∧ words.length ≤ 5 ∧ words ≠ [] ∧ (words.map List.length).sum ≤ 39 ∧ (∀ w ∈ words, w ≠ [] ∧ ∀ x ∈ w, x ∈ ls) ∧
  ∀ (v : V) (m : Mach) (H' : Hp), Fe H H' → rMach H' v m → MOk m → m.1 ≤ 40 → (∀ s ∈ m.2.2, s.2.1 ∈ ls) → m.2.2.length ≤ 44 → m.2.1.length ≤ 10 → (∀ w ∈ words, ∃ q, q ∈ m.2.1 ∧ Lead (Em m) w 0 q) → Q v H'
section
variable {P : Program} {w : World} {K : PySem.W.Frag} {g : Str → Option Value} {base : Heap}
theorem ok_law_tree (T : Txt K g) : FnOk P w K g base CX0 1 T.d_law_tree.f T.d_law_tree.fd P_law_tree spTree := by
  refine T.d_law_tree.F.ok sc_law_tree (fun vs H Q E h => ?_) (fun cdv A outer s H vs Q E hr h => ?_)
  · obtain ⟨_, _, _, _, rfl, _⟩ := h
    rfl
  · obtain ⟨words, ls, ag, v1, rfl, hw, hw5, hw0, hsum, hok, kk⟩ := h
    have hu := hu_of hr
    refine ⟨_, (pss_cons (ps_set (i := 2) sc_law_tree.nd rfl (by first | exact Or.inl rfl | exact Or.inr rfl) pe_dnewT)
    (pss_cons (ps_set (i := 3) sc_law_tree.nd rfl (by first | exact Or.inl rfl | exact Or.inr rfl) (pe_lst pa_nil))
    (pss_cons (ps_set (i := 4) sc_law_tree.nd rfl (by first | exact Or.inl rfl | exact Or.inr rfl) pe_int)
    (pss_cons (ps_for PassesOwn.never rfl (ki_list (K := K) rfl (pv 0)) (pg_name (i := 5) sc_law_tree.nd rfl (by first | exact Or.inl rfl | exact Or.inr rfl))
      (pss_cons (ps_set (i := 6) sc_law_tree.nd rfl (by first | exact Or.inl rfl | exact Or.inr rfl) pe_int)
      (pss_cons (ps_for PassesOwn.never rfl (pi_str (pv 5)) (pg_name (i := 7) sc_law_tree.nd rfl (by first | exact Or.inl rfl | exact Or.inr rfl))
        (pss_cons (ps_if (pt_cmp (pc_dnotin hu (pe_tup (pa_cons (pv 6) (pa_cons (pv 7) pa_nil))) (pv 2)))
          (pss_cons (ps_dput hu (pv 2) (pe_tup (pa_cons (pv 6) (pa_cons (pv 7) pa_nil))) (pv 4) rfl)
          (pss_one (ps_aug (i := 4) sc_law_tree.nd rfl (by first | exact Or.inl rfl | exact Or.inr rfl) pe_int ip_add)))
          pss_nil)
        (pss_cons (ps_set (i := 8) sc_law_tree.nd rfl (by first | exact Or.inl rfl | exact Or.inr rfl) (pe_tup (pa_cons (pv 6) (pa_cons (pv 7) pa_nil))))
        (pss_one (ps_set (i := 6) sc_law_tree.nd rfl (by first | exact Or.inl rfl | exact Or.inr rfl) (pe_dget hu (pv 2) (pe_tup (pa_cons (pv 6) (pa_cons (pv 7) pa_nil))) (fun _ _ => rfl)))))))
      (pss_cons (ps_expr (ke_bm (K := K) rfl PySem.F.plainAttrs_list PySem.F.slot_list_append PySem.F.type_list_append mt_append (pv 3) (pa_cons (pv 6) pa_nil)))
      (pss_one (ps_if (pt_val (pv 1))
        (pss_cons (ps_expr (ke_bm (K := K) rfl PySem.F.plainAttrs_list PySem.F.slot_list_append PySem.F.type_list_append mt_append (pv 3) (pa_cons pe_int pa_nil)))
        (pss_one (ps_dput hu (pv 2) (pe_op (ko_catT (K := K) rfl) (pv 8) (pe_tup (pa_cons pe_int pa_nil))) pe_int rfl)))
        pss_nil))))))
    (pss_cons (ps_lock (ps_setLc (i := 9) (own := [("key", 10)]) rfl sc_law_tree.nd rfl rfl (sw_true rfl rfl rfl (by decide +kernel)) (pi_keys (pv 2)) (blkOk_by (N := N_law_tree) (sc := defScope s_law_tree) (by decide +kernel)) (fun _ _ _ _ _ => by exact (pg_name (i := 10) sc_law_tree.nd rfl (by first | exact Or.inl rfl | exact Or.inr rfl))) (fun _ _ _ _ _ => by exact pts_nil) (fun _ _ _ _ _ => by exact (pe_tup (pa_cons (pe_ix (kx_tup (K := K) rfl) (pv 10) pe_int (fun _ _ => rfl)) (pa_cons (pe_ix (kx_tup (K := K) rfl) (pv 10) pe_int (fun _ _ => rfl)) (pa_cons (pe_dget hu (pv 2) (pv 10) (fun _ _ => rfl)) pa_nil)))))))
    (pss_one (ps_ret (pe_tup (pa_cons (pv 4) (pa_cons (pe_callTy (kc_tuple (K := K) rfl) (by rfl) T.z_tuple (by decide +kernel) (pa_cons (pe_callB (kc_sortedSet (w := w) rfl rfl) (by rfl) T.z_sorted (by decide +kernel) (pa_cons (pe_callTy (kc_setI (K := K) (w := w) rfl rfl rfl) (by rfl) T.z_set (by decide +kernel) (pa_cons (pv 3) pa_nil)) pa_nil)) pa_nil)) (pa_cons (pe_callTy (kc_tuple (K := K) rfl) (by rfl) T.z_tuple (by decide +kernel) (pa_cons (pe_callB (kc_sortedSetT (K := K) (P := P) (w := w) rfl rfl rfl rfl) (by rfl) T.z_sorted (by decide +kernel) (pa_cons (pe_callTy (kc_setT (K := K) (P := P) (w := w) rfl rfl rfl rfl hr.units) (by rfl) T.z_set (by decide +kernel) (pa_cons (pv 9) pa_nil)) pa_nil)) pa_nil)) pa_nil))))))))))), ?_⟩
    obtain ⟨wa, wxs, rfl, hwa, hwx⟩ := id hw
    intro D hD
    have gD := Fe.new (o := .dT []) hD
    refine ⟨Nat.zero_le _, fun L hL => ?_⟩
    have gL := gD.trans (Fe.new (o := .lst []) hL)
    have nDL : D ≠ L := ne_of_none upd_same hL
    have hLn : H L = none := gD.free hL
    have D0 : (upd (upd H D (.dT [])) L (.lst [])) D = some (.dT (tkvs [])) := by rw [upd_ne nDL]; exact upd_same
    have L0 : (upd (upd H D (.dT [])) L (.lst [])) L = some (.lst (([] : List Nat).map vN)) := upd_same
    generalize upd (upd H D (.dT [])) L (.lst []) = H1 at gL D0 L0 ⊢
    refine ⟨_, rfl, wa, rfl, ⟨_, SqL.of (gL.k hwa)⟩, for_lst (xs := wxs) (fun i σ' H' => ∃ (E : List TrE) (ends : List Nat) (n : Nat) (o5 o6 o7 o8 : Option V), σ' = [some (.ref wa), some (.bl ag), some (.ref D), some (.ref L), some (vN n), o5, o6, o7, o8, none, none] ∧ Fe H H' ∧ H' D = some (.dT (tkvs E)) ∧ H' L = some (.lst (ends.map vN)) ∧ 1 ≤ n ∧
      TrI ls n E ∧ (∀ q ∈ ends, q < n) ∧ (∀ wd ∈ words.take i, ∃ q, q ∈ ends ∧ Lead (StE E) wd 0 q) ∧ n ≤ 1 + ((words.take i).map List.length).sum ∧ E.length + 1 ≤ n + i ∧ ends.length ≤ 2 * i) ⟨[], [], 1, _, _, _, _, rfl, gL, D0, L0, Nat.le_refl _, ⟨fun _ h => (nomatch h), fun _ h => (nomatch h), List.nodup_nil⟩, fun _ h => (nomatch h), fun _ h => (nomatch h), Nat.le_refl _, Nat.le_refl _, Nat.le_refl _⟩
      (fun i σ' H' _ ⟨_, _, _, _, _, _, _, _, e, _⟩ => e.k hwa) ?_ ?_⟩
    · rintro i x σ' H' hx ⟨E, ends, n, o5, o6, o7, o8, rfl, e, hDv, hLv, hn1, ti, hel, hacc, hn, hEl, hendl⟩
      obtain ⟨wd, hwd, hxr⟩ := hwx.get hx
      have hxr : x = .str ⟨wd.toArray⟩ := hxr
      subst hxr
      have hwm := List.mem_of_getElem? hwd
      obtain ⟨hwne, hwl⟩ := hok wd hwm
      have hil : i < words.length := (List.getElem?_eq_some_iff.mp hwd).1
      have htk : words.take (i + 1) = words.take i ++ [wd] := by rw [List.take_add_one, hwd]; rfl
      have hsum2 : ((words.take (i + 1)).map List.length).sum ≤ 39 := by
        refine Nat.le_trans ?_ hsum
        conv => rhs; rw [← List.take_append_drop (i + 1) words, List.map_append, List.sum_append]
        omega
      rw [htk, List.map_append, List.sum_append] at hsum2
      have hs1 : ([wd].map List.length).sum = wd.length := by simp
      rw [hs1] at hsum2
      refine ⟨_, rfl, _, rfl, for_str (l := wd) (fun k σ' H' => ∃ (E' : List TrE) (n' q : Nat) (o7 o8 : Option V), σ' = [some (.ref wa), some (.bl ag), some (.ref D), some (.ref L), some (vN n'), some (.str ⟨wd.toArray⟩), some (vN q), o7, o8, none, none] ∧ Fe H H' ∧ H' D = some (.dT (tkvs E')) ∧ H' L = some (.lst (ends.map vN)) ∧ n ≤ n' ∧
        TrI ls n' E' ∧ (∀ q x p, StE E q x p → StE E' q x p) ∧ q < n' ∧ Lead (StE E') (wd.take k) 0 q ∧ n' ≤ n + k ∧ E'.length + n ≤ n' + E.length ∧ (0 < k → ∃ (U : Addr) (a x : Nat), o8 = some (.ref U) ∧ H' U = some (.tup [vN a, s1 x]) ∧ a < n' ∧ x ∈ ls))
        ⟨E, n, 0, _, _, rfl, e, hDv, hLv, Nat.le_refl _, ti, fun _ _ _ h => h, by omega, rfl, Nat.le_refl _, by omega, fun h => absurd h (Nat.lt_irrefl _)⟩ ?_ ?_⟩
      · rintro k xv σ' H' hxk ⟨E', n', q, o7, o8, rfl, e', hDv', hLv', hnn, ti', hsub, hq, hlead, hnk, hcnt, hlast⟩
        have hxw : xv ∈ wd := List.mem_of_getElem? hxk
        have hkl : k < wd.length := (List.getElem?_eq_some_iff.mp hxk).1
        have htk2 : wd.take (k + 1) = wd.take k ++ [xv] := by rw [List.take_add_one, hxk]; rfl
        have hE40 : E'.length ≤ 60 := by omega
        have fin : ∀ (E1 : List TrE) (n1 p : Nat) (H2 : Hp), Fe H H2 → H2 D = some (.dT (tkvs E1)) → H2 L = some (.lst (ends.map vN)) → n' ≤ n1 → TrI ls n1 E1 → (∀ e ∈ E', e ∈ E1) → (q, xv, p, false) ∈ E1 → n1 ≤ n' + 1 → E1.length + n' ≤ n1 + E'.length →
            ∀ H4, Fe H2 H4 → H4 D = H2 D → H4 L = H2 L → ∀ U, H4 U = some (.tup [vN q, s1 xv]) →
            (∃ (E' : List TrE) (n' q : Nat) (o7 o8 : Option V), [some (.ref wa), some (.bl ag), some (.ref D), some (.ref L), some (vN n1), some (.str ⟨wd.toArray⟩), some (vN p), some (s1 xv), some (.ref U), none, none] = [some (.ref wa), some (.bl ag), some (.ref D), some (.ref L), some (vN n'), some (.str ⟨wd.toArray⟩), some (vN q), o7, o8, none, none] ∧ Fe H H4 ∧ H4 D = some (.dT (tkvs E')) ∧ H4 L = some (.lst (ends.map vN)) ∧ n ≤ n' ∧
              TrI ls n' E' ∧ (∀ q x p, StE E q x p → StE E' q x p) ∧ q < n' ∧ Lead (StE E') (wd.take (k + 1)) 0 q ∧ n' ≤ n + (k + 1) ∧ E'.length + n ≤ n' + E.length ∧ (0 < k + 1 → ∃ (U : Addr) (a x : Nat), o8 = some (.ref U) ∧ H4 U = some (.tup [vN a, s1 x]) ∧ a < n' ∧ x ∈ ls)) := by
          intro E1 n1 p H2 g1 g2 g3 g4 g5 g6 g7 g8 g9 H4 f1 f2 f3 U f4
          refine ⟨E1, n1, p, _, _, rfl, g1.trans f1, f2.trans g2, f3.trans g3, by omega, g5, fun q x p h => g6 _ (hsub q x p h), (g5.lt _ g7).2.1, ?_, by omega, by omega, fun _ => ⟨U, q, xv, rfl, f4, by omega, hwl xv hxw⟩⟩
          rw [htk2]
          exact Lead.snoc.mpr ⟨_, Lead.mono' (fun q x p h => g6 _ h) hlead, g7⟩
        refine ⟨_, rfl, _, rfl, by show 2 ≤ sizeLine; decide, fun U hU => ?_⟩
        have gU := Fe.new (o := .tup [vN q, s1 xv]) hU
        refine ⟨_, rfl, D, _, rfl, DGet.t (k := tkey (q, xv, 0, false)) (gU.k hDv') upd_same, ?_⟩
        have e1 := e'.trans gU
        have hD1 := gU.k hDv'
        have hL1 := gU.k hLv'
        generalize upd H' U (.tup [vN q, s1 xv]) = H1 at gU e1 hD1 hL1 ⊢
        cases hvv : valV (tkvs E') (tkey (q, xv, 0, false)) with
        | none =>
          refine ⟨_, rfl, ?_⟩
          refine iteT ?_
          refine ⟨_, rfl, _, rfl, _, rfl, _, rfl, by show 2 ≤ sizeLine; decide, fun U2 hU2 => ?_⟩
          have g2 := Fe.new (o := .tup [vN q, s1 xv]) hU2
          have e2 := e1.trans g2
          refine ⟨D, _, rfl, DPut.t (k := tkey (q, xv, n', false)) (g2.k hD1) upd_same (by rw [show (tkvs E').length = E'.length from List.length_map _, sizeLine_eq]; omega), ?_⟩
          rw [tkvs_put (e := (q, xv, n', false)) hvv]
          have hD2 := g2.k hD1
          have hL2 := g2.k hL1
          generalize upd H1 U2 (.tup [vN q, s1 xv]) = H2 at g2 e2 hD2 hL2 ⊢
          have hLD : L ≠ D := fun z => by rw [z, hD2] at hL2; cases hL2
          have ti2 : TrI ls (n' + 1) (E' ++ [(q, xv, n', false)]) := (ti'.wk (Nat.le_succ _)).snoc hvv ⟨by show q < n' + 1; omega, by show n' < n' + 1; omega, hwl xv hxw⟩ (fun z => nomatch z)
          have e3 : Fe H (upd H2 D (.dT (tkvs (E' ++ [(q, xv, n', false)])))) := e2.mut hD
          have hD3 : (upd H2 D (.dT (tkvs (E' ++ [(q, xv, n', false)])))) D = _ := upd_same
          have hL3 : (upd H2 D (.dT (tkvs (E' ++ [(q, xv, n', false)])))) L = _ := (upd_ne hLD).trans hL2
          generalize upd H2 D (.dT (tkvs (E' ++ [(q, xv, n', false)]))) = H3 at e3 hD3 hL3 ⊢
          refine ⟨_, rfl, _, _, rfl, rfl, _, rfl, _, rfl, by show 2 ≤ sizeLine; decide, fun U3 hU3 => ?_⟩
          have g3 := Fe.new (o := .tup [vN q, s1 xv]) hU3
          refine ⟨_, rfl, _, rfl, _, rfl, by show 2 ≤ sizeLine; decide, fun U4 hU4 => ?_⟩
          have g4 := Fe.new (o := .tup [vN q, s1 xv]) hU4
          refine ⟨D, vN n', rfl, ?_, ?_⟩
          · rw [← tkvs_at ti2.nd (e := (q, xv, n', false)) (List.mem_append_right _ List.mem_cons_self)]
            exact DGet.t ((g3.trans g4).k hD3) upd_same
          · exact fin _ (n' + 1) n' H3 e3 hD3 hL3 (Nat.le_succ _) ti2 (fun e he => List.mem_append_left _ he) (List.mem_append_right _ List.mem_cons_self) (Nat.le_refl _) (by rw [List.length_append, List.length_singleton]; omega) _ (g3.trans g4) (((g3.trans g4).k hD3).trans hD3.symm) (((g3.trans g4).k hL3).trans hL3.symm) U3 (g4.k upd_same)
        | some v =>
          obtain ⟨e, he, hke, rfl⟩ := tkvs_val hvv
          obtain ⟨h1, h2, h3⟩ := key2_inj hke
          obtain ⟨ea, ex, ep, eg⟩ := e
          simp only at h1 h2 h3
          subst h1 h2 h3
          refine ⟨_, rfl, iteF ?_⟩
          refine ⟨_, rfl, _, rfl, by show 2 ≤ sizeLine; decide, fun U3 hU3 => ?_⟩
          have g3 := Fe.new (o := .tup [vN ea, s1 ex]) hU3
          refine ⟨_, rfl, _, rfl, _, rfl, by show 2 ≤ sizeLine; decide, fun U4 hU4 => ?_⟩
          have g4 := Fe.new (o := .tup [vN ea, s1 ex]) hU4
          refine ⟨D, vN ep, rfl, ?_, ?_⟩
          · rw [← hvv]
            exact DGet.t ((g3.trans g4).k hD1) upd_same
          · exact fin E' n' ep H1 e1 hD1 hL1 (Nat.le_refl _) ti' (fun e he => he) he (Nat.le_succ _) (by omega) _ (g3.trans g4) (((g3.trans g4).k hD1).trans hD1.symm) (((g3.trans g4).k hL1).trans hL1.symm) U3 (g4.k upd_same)
      · rintro σ' H' ⟨E', n', q, o7, o8, rfl, e', hDv', hLv', hnn, ti', hsub, hq, hlead, hnk, hcnt, hlast⟩
        rw [List.take_length] at hlead
        obtain ⟨U, a, x, rfl, hU, ha, hx⟩ := hlast (List.length_pos_iff.mpr hwne)
        have hs2 : ((words.take (i + 1)).map List.length).sum = ((words.take i).map List.length).sum + wd.length := by rw [htk, List.map_append, List.sum_append, hs1]
        have hUL : U ≠ L := fun z => by rw [z, hLv'] at hU; cases hU
        have hUD : U ≠ D := fun z => by rw [z, hDv'] at hU; cases hU
        have hLD : L ≠ D := fun z => by rw [z, hDv'] at hLv'; cases hLv'
        have e1 : Fe H (upd H' L (.lst (ends.map vN ++ [vN q]))) := e'.mut hLn
        have hD1 : (upd H' L (.lst (ends.map vN ++ [vN q]))) D = _ := (upd_ne hLD.symm).trans hDv'
        have hU1 : (upd H' L (.lst (ends.map vN ++ [vN q]))) U = _ := (upd_ne hUL).trans hU
        have hL1 : (upd H' L (.lst (ends.map vN ++ [vN q]))) L = _ := upd_same
        have hacc1 : ∀ (ends' : List Nat), (∀ z ∈ ends, z ∈ ends') → q ∈ ends' → ∀ (E1 : List TrE), (∀ e ∈ E', e ∈ E1) → ∀ wd0 ∈ words.take (i + 1), ∃ q, q ∈ ends' ∧ Lead (StE E1) wd0 0 q := by
          intro ends' z1 z2 E1 z3 wd0 hwd0
          rw [htk] at hwd0
          rcases List.mem_append.mp hwd0 with h | h
          · obtain ⟨q0, q1, q2⟩ := hacc wd0 h
            exact ⟨q0, z1 _ q1, Lead.mono' (fun q x p h => z3 _ (hsub q x p h)) q2⟩
          · rw [List.mem_singleton.mp h]
            exact ⟨q, z2, Lead.mono' (fun q x p h => z3 _ h) hlead⟩
        refine ⟨_, rfl, .inl ⟨rfl, _, SqL.of hLv'⟩, _, rfl, L, _, _, rfl, rfl, hLv', by rw [List.length_map, sizeLine_eq]; omega, ?_⟩
        generalize upd H' L (.lst (ends.map vN ++ [vN q])) = H1 at e1 hD1 hU1 hL1 ⊢
        refine ⟨_, rfl, _, rfl, ?_⟩
        cases ag with
        | false =>
          refine iteF ?_
          refine ⟨E', ends ++ [q], n', _, _, _, _, rfl, e1, hD1, by rw [hL1, List.map_append]; rfl, by omega, ti', fun z hz => ?_, hacc1 _ (fun z h => List.mem_append_left _ h) (List.mem_append_right _ List.mem_cons_self) _ (fun _ h => h), by omega, by omega, by rw [List.length_append, List.length_singleton]; omega⟩
          rcases List.mem_append.mp hz with h | h
          · have := hel z h; omega
          · rw [List.mem_singleton.mp h]; exact hq
        | true =>
          refine iteT ?_
          refine ⟨_, rfl, .inl ⟨rfl, _, SqL.of hL1⟩, L, _, _, rfl, rfl, hL1, by rw [List.length_append, List.length_map, List.length_singleton, sizeLine_eq]; omega, ?_⟩
          have e2 : Fe H (upd H1 L (.lst (ends.map vN ++ [vN q] ++ [.int 0]))) := e1.mut hLn
          have hD2 : (upd H1 L (.lst (ends.map vN ++ [vN q] ++ [.int 0]))) D = _ := (upd_ne hLD.symm).trans hD1
          have hU2 : (upd H1 L (.lst (ends.map vN ++ [vN q] ++ [.int 0]))) U = _ := (upd_ne hUL).trans hU1
          have hL2 : (upd H1 L (.lst (ends.map vN ++ [vN q] ++ [.int 0]))) L = _ := upd_same
          generalize upd H1 L (.lst (ends.map vN ++ [vN q] ++ [.int 0])) = H2 at e2 hD2 hU2 hL2 ⊢
          refine ⟨_, rfl, _, rfl, by show 1 ≤ sizeLine; decide, fun T hT => ?_⟩
          have gT := Fe.new (o := .tup [.int 0]) hT
          refine ⟨U, T, _, _, rfl, rfl, SqT.of (gT.k hU2), SqT.of upd_same, (fun z => nomatch z), by show 3 ≤ sizeLine; decide, (fun z => nomatch z), fun _ T2 hT2 => ?_⟩
          have gT2 := Fe.new (o := .tup ([vN a, s1 x] ++ [.int 0])) hT2
          have e3 := (e2.trans gT).trans gT2
          have hD3 := gT2.k (gT.k hD2)
          have hL3 := gT2.k (gT.k hL2)
          have hT3 : (upd (upd H2 T (.tup [.int 0])) T2 (.tup ([vN a, s1 x] ++ [.int 0]))) T2 = some (.tup ((tkey (a, x, 0, true)).map kV)) := upd_same
          generalize upd (upd H2 T (.tup [.int 0])) T2 (.tup ([vN a, s1 x] ++ [.int 0])) = H3 at e3 hD3 hL3 hT3 ⊢
          refine ⟨D, _, rfl, DPut.t hD3 hT3 (by rw [show (tkvs E').length = E'.length from List.length_map _, sizeLine_eq]; omega), ?_⟩
          have e4 : ∀ o, Fe H (upd H3 D o) := fun o => e3.mut hD
          have hL4 : ∀ o, (upd H3 D o) L = some (.lst ((ends ++ [q] ++ [0]).map vN)) := fun o => (upd_ne hLD).trans (hL3.trans (by rw [List.map_append, List.map_append]; rfl))
          have hacc4 := hacc1 (ends ++ [q] ++ [0]) (fun z h => List.mem_append_left _ (List.mem_append_left _ h)) (List.mem_append_left _ (List.mem_append_right _ List.mem_cons_self))
          have hel4 : ∀ z ∈ ends ++ [q] ++ [0], z < n' := fun z hz => by
            rcases List.mem_append.mp hz with h | h
            · rcases List.mem_append.mp h with h | h
              · have := hel z h; omega
              · rw [List.mem_singleton.mp h]; exact hq
            · rw [List.mem_singleton.mp h]; omega
          have hll4 : (ends ++ [q] ++ [0]).length ≤ 2 * (i + 1) := by rw [List.length_append, List.length_append, List.length_singleton, List.length_singleton]; omega
          cases hvv : valV (tkvs E') (tkey (a, x, 0, true)) with
          | none =>
            have := tkvs_put (e := (a, x, 0, true)) hvv
            rw [show (V.int 0) = vN 0 from rfl, this]
            have ti2 := ti'.snoc hvv ⟨ha, by show 0 < n'; omega, hx⟩ (fun _ => rfl)
            exact ⟨E' ++ [(a, x, 0, true)], _, n', _, _, _, _, rfl, e4 _, upd_same, hL4 _, by omega, ti2, hel4, hacc4 _ (fun _ h => List.mem_append_left _ h), by omega, by rw [List.length_append, List.length_singleton]; omega, hll4⟩
          | some v =>
            obtain ⟨e0, he0, hk0, rfl⟩ := tkvs_val hvv
            rw [ti'.ag e0 he0 (key3_ag hk0)] at hvv
            rw [show (V.int 0) = vN 0 from rfl, tkvs_same hvv (fun e he hk => by rw [ti'.ag e he (key3_ag hk)])]
            exact ⟨E', _, n', _, _, _, _, rfl, e4 _, upd_same, hL4 _, by omega, ti', hel4, hacc4 _ (fun _ h => h), by omega, by omega, hll4⟩
    · rintro σ' H' ⟨E, ends, n, o5, o6, o7, o8, rfl, e, hDv, hLv, hn1, ti, hel, hacc, hn, hEl, hendl⟩
      have htl : words.take wxs.length = words := List.take_of_length_le (by rw [← hwx.len]; exact Nat.le_refl _)
      have hwl : wxs.length = words.length := by rw [hwx.len]
      rw [htl] at hacc hn
      rw [hwl] at hEl hendl
      refine ⟨D, .dT (tkvs E), hDv, trivial, fun od => ?_⟩
      have eL : Fe H (upd H' D (.frz od (.dT (tkvs E)))) := e.mut hD
      have hlk : (upd H' D (.frz od (.dT (tkvs E)))) D = some (.frz od (.dT (tkvs E))) := upd_same
      have nLD : L ≠ D := fun z => by rw [z, hDv] at hLv; cases hLv
      have hLv2 : (upd H' D (.frz od (.dT (tkvs E)))) L = some (.lst (ends.map vN)) := (upd_ne nLD).trans hLv
      generalize upd H' D (.frz od (.dT (tkvs E))) = HL at eL hlk hLv2
      have hlen : (tkvs E).length = E.length := List.length_map _
      refine ⟨_, rfl, D, od, rfl, .inr ⟨tkvs E, hlk, fun C hC => lc_by (tkvs E).length (fun i H' => Cmp rStep HL C ((E.take i).map fun e => (e.1, e.2.1, e.2.2.1)) H') (Cmp.start hC) (fun i H' hi c => ⟨c.fe.k hlk, hi⟩) (fun H' c => ⟨c.fe.k hlk, Nat.le_refl _⟩) ?_ ?_⟩⟩
      · rintro i xv H' H6 hi c ⟨rfl, k, v, q, hkv, rfl, hq⟩
        obtain ⟨ee, hee, hke⟩ : ∃ ee, E[i]? = some ee ∧ (k, v) = (tkey ee, vN ee.2.2.1) := by
          unfold tkvs at hkv
          rw [List.getElem?_map] at hkv
          cases h : E[i]? with
          | none => rw [h] at hkv; cases hkv
          | some ee => rw [h] at hkv; exact ⟨ee, rfl, (Option.some.inj hkv).symm⟩
        have hk1 : k = tkey ee := congrArg Prod.fst hke
        have hv1 : v = vN ee.2.2.1 := congrArg Prod.snd hke
        subst hk1 hv1
        obtain ⟨rr, hr2⟩ : ∃ rr, (tkey ee).map kV = vN ee.1 :: s1 ee.2.1 :: rr := by
          obtain ⟨_, _, _, g⟩ := ee
          cases g <;> exact ⟨_, rfl⟩
        have hq2 : H6 q = some (.tup (vN ee.1 :: s1 ee.2.1 :: rr)) := by rw [hq, hr2]
        refine ⟨rfl, _, rfl, q, _, _, _, rfl, rfl, SqT.of hq2, atI_nat (j := 0) rfl, _, rfl, q, _, _, _, rfl, rfl, SqT.of hq2, atI_nat (j := 1) rfl, _, rfl, _, rfl, D, vN ee.2.2.1, rfl, ?_, by show 3 ≤ sizeLine; decide, fun T hT => ?_⟩
        · rw [← tkvs_at ti.nd (List.mem_of_getElem? hee)]
          exact .inr ⟨tkvs E, _, q, .inr ⟨od, c.fe.k hlk⟩, rfl, hq, rfl⟩
        · have gT := Fe.new (o := .tup [vN ee.1, s1 ee.2.1, vN ee.2.2.1]) hT
          obtain ⟨acc, a1, a2, a3⟩ := c.add (x := (ee.1, ee.2.1, ee.2.2.1)) (y := .ref T) (by rw [List.length_map, List.length_take]; omega) gT ⟨T, _, _, _, rfl, upd_same, rfl, rfl, rfl⟩
          refine ⟨acc, a1, a2, ?_⟩
          rw [List.take_add_one, hee, List.map_append]
          exact a3
      · rintro H6 c
        rw [List.take_of_length_le (by omega)] at c
        refine ⟨c.fe.k hlk, ?_⟩
        obtain ⟨_, vs0, eC, hCv, al⟩ := c.rl
        cases eC
        have nDC : D ≠ C := ne_of_none hlk hC
        have fD : Fx [D] H6 (upd H6 D (.dT (tkvs E))) := Fx.put (c.fe.k hlk) (List.mem_singleton.mpr rfl) (fun _ z => nomatch z)
        have e7 : Fe H (upd H6 D (.dT (tkvs E))) := (eL.trans c.fe).mut hD
        have hL7 : (upd H6 D (.dT (tkvs E))) L = _ := (upd_ne nLD).trans (c.fe.k hLv2)
        have hC7 : (upd H6 D (.dT (tkvs E))) C = some (.lst vs0) := by rw [upd_ne nDC.symm]; exact hCv
        have al7 := Al.mo fD al
        generalize upd H6 D (.dT (tkvs E)) = H7 at e7 hL7 hC7 al7
        obtain ⟨ks, rfl, hkl, hk⟩ := tl_ofx stK (fun v x h => step_key h) al7
        have hkl2 : ks.length = E.length := by have := congrArg List.length hkl; rw [List.length_map, List.length_map, List.length_map] at this; exact this
        refine ⟨_, rfl, _, rfl, L, _, rfl, SqL.of (by rw [hL7]; exact congrArg (fun z => some (HO.lst z)) (List.map_map ..).symm), by rw [List.length_map]; omega, fun A1 n1 hA1 hn1' => ?_⟩
        have g1 := Fe.new (o := SetO w A1 (fun j => decide (j ∈ ends.map fun n : Nat => (n : Int))) n1) hA1
        rw [List.length_map] at hn1'
        refine ⟨A1, _, n1, rfl, upd_same, by omega, fun ns' p1 _ hmem hns hp1 => ?_⟩
        obtain ⟨el, rfl, hel2⟩ := set_back hmem
        rw [List.length_map] at hns
        have g2 := g1.trans (Fe.new (o := .lst ((el.map fun n : Nat => (n : Int)).map V.int)) hp1)
        refine ⟨p1, _, rfl, .inl ⟨SqL.of upd_same, fun u1 hu1 => ?_⟩⟩
        have g3 := g2.trans (Fe.new (o := .tup ((el.map fun n : Nat => (n : Int)).map V.int)) hu1)
        have hu1' : (upd (upd (upd H7 A1 (SetO w A1 (fun j => decide (j ∈ ends.map fun n : Nat => (n : Int))) n1)) p1 (.lst ((el.map fun n : Nat => (n : Int)).map V.int))) u1 (.tup ((el.map fun n : Nat => (n : Int)).map V.int))) u1 = some (.tup (el.map vN)) := by
          rw [upd_same]; exact congrArg (fun z => some (HO.tup z)) (List.map_map ..)
        have hC8 := g3.k hC7
        generalize upd (upd (upd H7 A1 (SetO w A1 (fun j => decide (j ∈ ends.map fun n : Nat => (n : Int))) n1)) p1 (.lst ((el.map fun n : Nat => (n : Int)).map V.int))) u1 (.tup ((el.map fun n : Nat => (n : Int)).map V.int)) = H8 at g3 hu1' hC8 ⊢
        refine ⟨_, rfl, C, ks, rfl, SqL.of hC8, fun p hp => ?_, by omega, fun a2 L2 ha2 hsub2 hlen2 hcov2 => ?_⟩
        · obtain ⟨_, _, _, h⟩ := hk p hp
          exact SqT.of (g3.k h)
        have g4 := g3.trans (Fe.new (o := SetMO P w a2 L2) ha2)
        have k4 := Fe.new (o := SetMO P w a2 L2) ha2
        refine ⟨a2, L2, [false, true, false], rfl, upd_same, fun p hp => ?_, by decide, fun L' q hpm hq => ?_⟩
        · obtain ⟨s, _, e, h⟩ := hk p (hsub2 p hp)
          exact ⟨SqT.of (g4.k h), by rw [e]; rfl⟩
        have g5 := g4.trans (Fe.new (o := .lst (L'.map fun q => V.ref q.1)) hq)
        have k5 := k4.trans (Fe.new (o := .lst (L'.map fun q => V.ref q.1)) hq)
        refine ⟨q, _, rfl, .inl ⟨SqL.of upd_same, fun u hu => ?_⟩⟩
        have g6 := g5.trans (Fe.new (o := .tup (L'.map fun q => V.ref q.1)) hu)
        have k6 := k5.trans (Fe.new (o := .tup (L'.map fun q => V.ref q.1)) hu)
        obtain ⟨sl, hal, hs2, hlen3, hcov3⟩ := steps_back2 hk hsub2 hpm hcov2 g6
        have hv : rT rStep _ (.ref u) sl := ⟨u, _, rfl, upd_same, hal⟩
        refine ⟨by show 3 ≤ sizeLine; decide, fun R hR => ?_⟩
        have fR := Fe.new (o := .tup [vN n, .ref u1, .ref u]) hR
        have hmem : ∀ s, s ∈ sl → ∃ ee ∈ E, s = (ee.1, ee.2.1, ee.2.2.1) := fun s hs => by
          obtain ⟨ee, h1, h2⟩ := List.mem_map.mp (hs2 s hs)
          exact ⟨ee, h1, h2.symm⟩
        refine kk _ (n, el, sl) _ ((e7.trans g6).trans fR) ⟨R, _, _, _, rfl, upd_same, rfl, ?_, Mo.mo (r := rT rStep) fR hv⟩ ⟨hn1, by show n ≤ 1000; omega, fun q hq => hel q ((hel2 q).mp hq), fun s hs => ?_, by show sl.length ≤ 100; omega⟩ (by show n ≤ 40; omega) (fun s hs => ?_) (by show sl.length ≤ 44; omega) (by show el.length ≤ 10; omega) fun wd hwd => ?_
        · exact ⟨u1, _, rfl, fR.k (k6.k hu1'), Al.ofNats el⟩
        · obtain ⟨ee, h1, rfl⟩ := hmem s hs
          exact ⟨(ti.lt ee h1).1, (ti.lt ee h1).2.1⟩
        · obtain ⟨ee, h1, rfl⟩ := hmem s hs
          exact (ti.lt ee h1).2.2
        · obtain ⟨q, q1, q2⟩ := hacc wd hwd
          refine ⟨q, (hel2 q).mpr q1, Lead.mono' (fun a x b h => ?_) q2⟩
          have hin : (a, x, b) ∈ E.map fun e => (e.1, e.2.1, e.2.2.1) := List.mem_map.mpr ⟨_, h, rfl⟩
          have hin2 : stK (a, x, b) ∈ ks.map (·.2) := by rw [hkl]; exact List.mem_map.mpr ⟨_, hin, rfl⟩
          obtain ⟨p, hp, ep⟩ := List.mem_map.mp hin2
          exact hcov3 (a, x, b) hin ⟨p, hp, ep⟩
end
end Fm
/-! the book of the words -/
namespace Fm
open PySem L2
def DB2 (ls : List Nat) (kvs : BKV) : Prop := ∀ kv ∈ kvs, ∃ (r w : List Nat) (c : Nat), kv = (eK r w, vN c) ∧ r.length ≤ 3 ∧ w.length ≤ 3 ∧ (∀ x ∈ r, x ∈ ls) ∧ r ≠ w
theorem DB2.put {ls : List Nat} {kvs : BKV} (d : DB2 ls kvs) {r w : List Nat} (c : Nat) (h1 : r.length ≤ 3) (h2 : w.length ≤ 3) (h3 : ∀ x ∈ r, x ∈ ls) (h4 : r ≠ w) : DB2 ls (putK kvs (eK r w) (vN c)) := fun kv h => by
  rcases putK_mem h with rfl | h
  · exact ⟨r, w, c, rfl, h1, h2, h3, h4⟩
  · exact d kv h
structure BT (p g : Addr) (H0 H : Hp) (D : Addr) (ls : List Nat) (k : Nat) : Prop where
  fx : Fx [p, g] H0 H
  pl : Pl H p g
  nD : H0 D = none
  nD2 : D ∉ [p, g]
  kv : ∃ kvs, H D = some (.dT kvs) ∧ DB2 ls kvs ∧ kvs.length ≤ k
theorem BT.f {p g : Addr} {H0 H H' : Hp} {D : Addr} {ls : List Nat} {k : Nat} (b : BT p g H0 H D ls k) (f : Fx [p, g] H H') (q : Pl H' p g) : BT p g H0 H' D ls k := by
  obtain ⟨kvs, h1, h2⟩ := b.kv
  exact ⟨b.fx.trans f, q, b.nD, b.nD2, kvs, f.keep _ _ b.nD2 h1, h2⟩
theorem BT.fe {p g : Addr} {H0 H H' : Hp} {D : Addr} {ls : List Nat} {k : Nat} (b : BT p g H0 H D ls k) (f : Fe H H') : BT p g H0 H' D ls k := b.f f.to (b.pl.keep f)
theorem BT.wk {p g : Addr} {H0 H : Hp} {D : Addr} {ls : List Nat} {k k' : Nat} (b : BT p g H0 H D ls k) (h : k ≤ k') : BT p g H0 H D ls k' := by
  obtain ⟨kvs, h1, h2, h3⟩ := b.kv
  exact ⟨b.fx, b.pl, b.nD, b.nD2, kvs, h1, h2, Nat.le_trans h3 h⟩
theorem BT.put {p g : Addr} {H0 H : Hp} {D U : Addr} {ls : List Nat} {k : Nat} (b : BT p g H0 H D ls k) (hk : k < 1000) {r w : List Nat} (hU : H U = some (.tup ((eK r w).map kV))) (c : Nat) (h1 : r.length ≤ 3) (h2 : w.length ≤ 3) (h3 : ∀ x ∈ r, x ∈ ls) (h4 : r ≠ w) :
    ∃ H', DPut H D (.ref U) (vN c) H' ∧ BT p g H0 H' D ls (k + 1) := by
  obtain ⟨kvs, e1, e2, e3⟩ := b.kv
  refine ⟨_, DPut.t e1 hU (by rw [sizeLine_eq]; omega), b.fx.mu b.nD, b.pl.put b.nD2, b.nD, b.nD2, _, upd_same, e2.put c h1 h2 h3 h4, ?_⟩
  have := length_putK kvs (eK r w) (vN c)
  omega
def spBookM : Sp := fun vs H Q _ => ∃ (p g : Addr) (ls : List Nat) (words : List (List Nat)) (v3 : V) (n : Nat), vs = [.ref p, .str ⟨ls.toArray⟩, v3, .int (n : Int)] ∧ Pl H p g ∧ ls ≠ [] ∧ ls.length ≤ 20 ∧ rLa [p, g] rS H v3 words ∧ words ≠ [] ∧ words.length ≤ 5 ∧ (∀ w ∈ words, w ≠ [] ∧ w.length ≤ 39) ∧ n ≤ 40 ∧
  ∀ (v : V) (es : List (List Nat × List Nat × Nat)) (H' : Hp), Fx [p, g] H H' → Pl H' p g → rBook H' v (ls, es) → BOk (ls, es) → BNe (ls, es) → es.length ≤ n → Q v H'
section
variable {P : Program} {w : World} {K : PySem.W.Frag} {g : Str → Option Value} {base : Heap}
theorem ok_law_book (T : Txt K g) : FnOk P w K g base CX0 3 T.d_law_book.f T.d_law_book.fd P_law_book spBookM := by
  refine T.d_law_book.F.ok sc_law_book (fun vs H Q E h => ?_) (fun cdv A outer s H vs Q E hr h => ?_)
  · obtain ⟨_, _, _, _, _, _, rfl, _⟩ := h
    rfl
  · obtain ⟨p, g, ls, words, v3, n, rfl, hP, hls, hl20, ⟨wa, wxs, rfl, hwa, hwx, hwn⟩, hw0, hw5, hww, hn, kk⟩ := h
    have hu := hu_of hr
    refine ⟨_, (pss_cons (ps_set (i := 4) sc_law_book.nd rfl (by first | exact Or.inl rfl | exact Or.inr rfl) pe_dnewT)
    (pss_cons (ps_for PassesOwn.never rfl (pi_range1 rfl T.z_range (pa_cons (pv 3) pa_nil)) (pg_name (i := 5) sc_law_book.nd rfl (by first | exact Or.inl rfl | exact Or.inr rfl))
      (pss_cons (ps_set (i := 6) sc_law_book.nd rfl (by first | exact Or.inl rfl | exact Or.inr rfl) (pe_ix (kx_list (K := K) rfl) (pv 2) (pe_call (ok_law_draw T) (hr.mono (by decide)) rfl T.d_law_draw.mg T.d_law_draw.kp T.d_law_draw.b .nil pass0 (pa_cons (pv 0) (pa_cons (pe_callB (kc_len (K := K) rfl) (by rfl) T.z_len PySem.boot_len (pa_cons (pv 2) pa_nil)) pa_nil))) (fun _ _ => rfl)))
      (pss_cons (ps_set (i := 7) sc_law_book.nd rfl (by first | exact Or.inl rfl | exact Or.inr rfl) (pe_call (ok_law_draw T) (hr.mono (by decide)) rfl T.d_law_draw.mg T.d_law_draw.kp T.d_law_draw.b .nil pass0 (pa_cons (pv 0) (pa_cons (pe_callB kc_lenS (by rfl) T.z_len PySem.boot_len (pa_cons (pv 6) pa_nil)) pa_nil))))
      (pss_cons (ps_set (i := 8) sc_law_book.nd rfl (by first | exact Or.inl rfl | exact Or.inr rfl) (pe_slice sl_str (pv 6) (po_some (pv 7)) (po_some (pe_op op_add (pe_op op_add (pv 7) pe_int) (pe_call (ok_law_draw T) (hr.mono (by decide)) rfl T.d_law_draw.mg T.d_law_draw.kp T.d_law_draw.b .nil pass0 (pa_cons (pv 0) (pa_cons pe_int pa_nil)))))))
      (pss_cons (ps_if (pt_cmpR op_eq (pe_call (ok_law_draw T) (hr.mono (by decide)) rfl T.d_law_draw.mg T.d_law_draw.kp T.d_law_draw.b .nil pass0 (pa_cons (pv 0) (pa_cons pe_int pa_nil))) pe_int (nomark _))
        (pss_one (ps_set (i := 8) sc_law_book.nd rfl (by first | exact Or.inl rfl | exact Or.inr rfl) (pe_call (ok_law_word T) (hr.mono (by decide)) rfl T.d_law_word.mg T.d_law_word.kp T.d_law_word.b .nil pass0 (pa_cons (pv 0) (pa_cons (pv 1) (pa_cons pe_int (pa_cons pe_int pa_nil)))))))
        pss_nil)
      (pss_cons (ps_set (i := 9) sc_law_book.nd rfl (by first | exact Or.inl rfl | exact Or.inr rfl) (pe_call (ok_law_word T) (hr.mono (by decide)) rfl T.d_law_word.mg T.d_law_word.kp T.d_law_word.b .nil pass0 (pa_cons (pv 0) (pa_cons (pv 1) (pa_cons pe_int (pa_cons pe_int pa_nil))))))
      (pss_cons (ps_if (pt_cmpR op_gt (pe_call (ok_law_draw T) (hr.mono (by decide)) rfl T.d_law_draw.mg T.d_law_draw.kp T.d_law_draw.b .nil pass0 (pa_cons (pv 0) (pa_cons pe_int pa_nil))) pe_int (nomark _))
        (pss_one (ps_set (i := 9) sc_law_book.nd rfl (by first | exact Or.inl rfl | exact Or.inr rfl) (pe_call (ok_law_word T) (hr.mono (by decide)) rfl T.d_law_word.mg T.d_law_word.kp T.d_law_word.b .nil pass0 (pa_cons (pv 0) (pa_cons (pv 1) (pa_cons pe_int (pa_cons pe_int pa_nil)))))))
        pss_nil)
      (pss_one (ps_if (pt_cmpR op_ne (pv 9) (pv 8) (nomark _))
        (pss_one (ps_dput hu (pv 4) (pe_tup (pa_cons (pv 9) (pa_cons (pv 8) pa_nil))) (pe_op op_add pe_int (pe_call (ok_law_draw T) (hr.mono (by decide)) rfl T.d_law_draw.mg T.d_law_draw.kp T.d_law_draw.b .nil pass0 (pa_cons (pv 0) (pa_cons pe_int pa_nil)))) rfl))
        pss_nil)))))))))
    (pss_one (ps_ret (pe_tup (pa_cons (pv 1) (pa_cons (pe_callTy (kc_tuple (K := K) rfl) (by rfl) T.z_tuple (by decide +kernel) (pa_cons (pe_callB (kc_sortedTL (K := K) rfl) (by rfl) T.z_sorted (by decide +kernel) (pa_cons (pe_lock (pe_lc (own := [("key", 10)]) rfl sc_law_book.nd (pi_keys (pv 4)) (blkOk_by (N := N_law_book) (sc := defScope s_law_book) (by decide +kernel)) (fun _ _ _ _ _ => by exact (pg_name (i := 10) sc_law_book.nd rfl (by first | exact Or.inl rfl | exact Or.inr rfl))) (fun _ _ _ _ _ => by exact pts_nil) (fun _ _ _ _ _ => by exact (pe_op (ko_catT (K := K) rfl) (pv 10) (pe_tup (pa_cons (pe_dget hu (pv 4) (pv 10) (fun _ _ => rfl)) pa_nil)))))) pa_nil)) pa_nil)) pa_nil))))))), ?_⟩
    intro D hD
    have b0 : BT p g H (upd H D (.dT [])) D ls 0 := ⟨(Fe.new hD).to, hP.keep (Fe.new hD), hD, hP.nw hD, [], upd_same, (fun _ z => nomatch z), Nat.le_refl _⟩
    have hwl : wxs.length = words.length := by rw [hwx.len]
    refine ⟨_, rfl, _, rfl, by omega, by omega, ?_⟩
    have hcn : (n : Int).toNat = n := by omega
    rw [hcn]
    refine for_range (lo := 0) (n := n) (fun i σ' H' => ∃ o5 o6 o7 o8 o9 : Option V, σ' = [some (.ref p), some (.str ⟨ls.toArray⟩), some (.ref wa), some (.int (n : Int)), some (.ref D), o5, o6, o7, o8, o9, none] ∧ BT p g H H' D ls i) ⟨_, _, _, _, _, rfl, b0⟩ ?_ ?_
    · rintro i σ' H' hi ⟨o5, o6, o7, o8, o9, rfl, b⟩
      obtain ⟨kvs0, hD0, db0, hk0⟩ := b.kv
      have hwa1 := b.fx.keep _ _ hwn hwa
      refine ⟨_, rfl, _, rfl, _, rfl, wa, _, rfl, .inl (SqL.of hwa1), ?_⟩
      refine ⟨p, g, words.length, by rw [hwl]; rfl, b.pl, by have := List.length_pos_iff.mpr hw0; omega, by omega, fun k1 H1 f1 P1 hk1 => ?_⟩
      have b1 := b.f f1 P1
      have hwa2 := f1.keep _ _ hwn hwa1
      have hwv : wxs[k1]? = some wxs[k1] := List.getElem?_eq_getElem (by omega)
      obtain ⟨word, hwm, hwd⟩ := hwx.get hwv
      have hwm := List.mem_of_getElem? hwm
      have hwd : wxs[k1] = .str ⟨word.toArray⟩ := hwd
      rw [hwd] at hwv
      obtain ⟨hwne, hw39⟩ := hww word hwm
      have hwpos := List.length_pos_iff.mpr hwne
      refine ⟨wa, _, _, _, rfl, rfl, SqL.of hwa2, atI_nat hwv, ?_⟩
      refine ⟨_, rfl, _, rfl, _, rfl, by rw [slen, sizeLine_eq]; omega, p, g, word.length, by rw [slen]; rfl, P1, by omega, by omega, fun k2 H2 f2 P2 hk2 => ?_⟩
      have b2 := b1.f f2 P2
      refine ⟨_, rfl, _, rfl, _, rfl, _, rfl, _, _, rfl, rfl, _, rfl, p, g, 3, rfl, P2, by omega, by omega, fun k3 H3 f3 P3 hk3 => ⟨_, _, rfl, rfl, _, rfl, _, rfl, by rw [slen, sizeLine_eq]; omega, ?_⟩⟩
      have b3 := b2.f f3 P3
      rw [show ((k2 : Int) + 1 + (k3 : Int)) = (k2 : Int) + ((1 + k3 : Nat) : Int) by omega, cut_mid word k2 (1 + k3) (Nat.le_of_lt hk2)]
      have hw3 : ((word.drop k2).take (1 + k3)).length ≤ 3 := by rw [List.length_take]; omega
      generalize (word.drop k2).take (1 + k3) = wr at hw3 ⊢
      refine ⟨_, rfl, p, g, 5, rfl, P3, by omega, by omega, fun k4 H4 f4 P4 hk4 => ?_⟩
      have b4 := b3.f f4 P4
      refine ⟨rfl, _, rfl, ?_⟩
      refine ite2 (fun _ => ?_) (fun _ => ?_)
      · refine ⟨_, rfl, _, rfl, p, g, ls, 0, 3, rfl, P4, hls, by omega, by decide, by decide, fun wr1 H5 f5 P5 hwl1 _ hw31 => ?_⟩
        have b5 := b4.f f5 P5
        refine ⟨_, rfl, _, rfl, p, g, ls, 0, 3, rfl, P5, hls, by omega, by decide, by decide, fun rd H6 f6 P6 hrl6 _ hr3 => ?_⟩
        have b6 := b5.f f6 P6
        refine ⟨_, rfl, p, g, 3, rfl, P6, by omega, by omega, fun k7 H7 f7 P7 hk7 => ?_⟩
        have b7 := b6.f f7 P7
        refine ⟨_, _, rfl, rfl, _, rfl, ?_⟩
        refine ite2 (fun _ => ?_) (fun _ => ?_)
        · refine ⟨_, rfl, _, rfl, p, g, ls, 2, 3, rfl, P7, hls, by omega, by decide, by decide, fun rd1 H8 f8 P8 hrl8 _ hr38 => ?_⟩
          have b8 := b7.f f8 P8
          refine ⟨_, rfl, _, rfl, rfl, _, rfl, ?_⟩
          refine ite2 (fun hne => ?_) (fun _ => ?_)
          · refine ⟨_, rfl, p, g, 4, rfl, P8, by omega, by omega, fun c9 H9 f9 P9 _ => ⟨_, _, rfl, rfl, _, rfl, _, rfl, _, rfl, by show 2 ≤ sizeLine; decide, fun U9 hU9 => ?_⟩⟩
            have b9 := (b8.f f9 P9).fe (Fe.new (o := .tup [.str ⟨rd1.toArray⟩, .str ⟨wr1.toArray⟩]) hU9)
            have hne2 : rd1 ≠ wr1 := fun z => by rw [z] at hne; exact absurd hne (by simp)
            obtain ⟨H10, hp10, b10⟩ := b9.put (by omega) (r := rd1) (w := wr1) (by rw [upd_same]; rfl) (1 + c9) hr38 hw31 hrl8 hne2
            have ev9 : V.int (1 + (c9 : Int)) = vN (1 + c9) := by show _ = V.int _; rw [Int.natCast_add]; rfl
            exact ⟨D, H10, rfl, by rw [← ev9] at hp10; exact hp10, _, _, _, _, _, rfl, b10⟩
          · exact ⟨_, _, _, _, _, rfl, b8.wk (by omega)⟩
        · have b8 := b7
          have P8 := P7
          have hrl8 := hrl6
          have hr38 := hr3
          revert b8 P8 hrl8 hr38
          generalize H7 = H8
          generalize rd = rd1
          intro b8 P8 hrl8 hr38
          refine ⟨_, rfl, _, rfl, rfl, _, rfl, ?_⟩
          refine ite2 (fun hne => ?_) (fun _ => ?_)
          · refine ⟨_, rfl, p, g, 4, rfl, P8, by omega, by omega, fun c9 H9 f9 P9 _ => ⟨_, _, rfl, rfl, _, rfl, _, rfl, _, rfl, by show 2 ≤ sizeLine; decide, fun U9 hU9 => ?_⟩⟩
            have b9 := (b8.f f9 P9).fe (Fe.new (o := .tup [.str ⟨rd1.toArray⟩, .str ⟨wr1.toArray⟩]) hU9)
            have hne2 : rd1 ≠ wr1 := fun z => by rw [z] at hne; exact absurd hne (by simp)
            obtain ⟨H10, hp10, b10⟩ := b9.put (by omega) (r := rd1) (w := wr1) (by rw [upd_same]; rfl) (1 + c9) hr38 hw31 hrl8 hne2
            have ev9 : V.int (1 + (c9 : Int)) = vN (1 + c9) := by show _ = V.int _; rw [Int.natCast_add]; rfl
            exact ⟨D, H10, rfl, by rw [← ev9] at hp10; exact hp10, _, _, _, _, _, rfl, b10⟩
          · exact ⟨_, _, _, _, _, rfl, b8.wk (by omega)⟩
      · have b5 := b4
        have P5 := P4
        have hw31 := hw3
        revert b5 P5 hw31
        generalize H4 = H5
        generalize wr = wr1
        intro b5 P5 hw31
        refine ⟨_, rfl, _, rfl, p, g, ls, 0, 3, rfl, P5, hls, by omega, by decide, by decide, fun rd H6 f6 P6 hrl6 _ hr3 => ?_⟩
        have b6 := b5.f f6 P6
        refine ⟨_, rfl, p, g, 3, rfl, P6, by omega, by omega, fun k7 H7 f7 P7 hk7 => ?_⟩
        have b7 := b6.f f7 P7
        refine ⟨_, _, rfl, rfl, _, rfl, ?_⟩
        refine ite2 (fun _ => ?_) (fun _ => ?_)
        · refine ⟨_, rfl, _, rfl, p, g, ls, 2, 3, rfl, P7, hls, by omega, by decide, by decide, fun rd1 H8 f8 P8 hrl8 _ hr38 => ?_⟩
          have b8 := b7.f f8 P8
          refine ⟨_, rfl, _, rfl, rfl, _, rfl, ?_⟩
          refine ite2 (fun hne => ?_) (fun _ => ?_)
          · refine ⟨_, rfl, p, g, 4, rfl, P8, by omega, by omega, fun c9 H9 f9 P9 _ => ⟨_, _, rfl, rfl, _, rfl, _, rfl, _, rfl, by show 2 ≤ sizeLine; decide, fun U9 hU9 => ?_⟩⟩
            have b9 := (b8.f f9 P9).fe (Fe.new (o := .tup [.str ⟨rd1.toArray⟩, .str ⟨wr1.toArray⟩]) hU9)
            have hne2 : rd1 ≠ wr1 := fun z => by rw [z] at hne; exact absurd hne (by simp)
            obtain ⟨H10, hp10, b10⟩ := b9.put (by omega) (r := rd1) (w := wr1) (by rw [upd_same]; rfl) (1 + c9) hr38 hw31 hrl8 hne2
            have ev9 : V.int (1 + (c9 : Int)) = vN (1 + c9) := by show _ = V.int _; rw [Int.natCast_add]; rfl
            exact ⟨D, H10, rfl, by rw [← ev9] at hp10; exact hp10, _, _, _, _, _, rfl, b10⟩
          · exact ⟨_, _, _, _, _, rfl, b8.wk (by omega)⟩
        · have b8 := b7
          have P8 := P7
          have hrl8 := hrl6
          have hr38 := hr3
          revert b8 P8 hrl8 hr38
          generalize H7 = H8
          generalize rd = rd1
          intro b8 P8 hrl8 hr38
          refine ⟨_, rfl, _, rfl, rfl, _, rfl, ?_⟩
          refine ite2 (fun hne => ?_) (fun _ => ?_)
          · refine ⟨_, rfl, p, g, 4, rfl, P8, by omega, by omega, fun c9 H9 f9 P9 _ => ⟨_, _, rfl, rfl, _, rfl, _, rfl, _, rfl, by show 2 ≤ sizeLine; decide, fun U9 hU9 => ?_⟩⟩
            have b9 := (b8.f f9 P9).fe (Fe.new (o := .tup [.str ⟨rd1.toArray⟩, .str ⟨wr1.toArray⟩]) hU9)
            have hne2 : rd1 ≠ wr1 := fun z => by rw [z] at hne; exact absurd hne (by simp)
            obtain ⟨H10, hp10, b10⟩ := b9.put (by omega) (r := rd1) (w := wr1) (by rw [upd_same]; rfl) (1 + c9) hr38 hw31 hrl8 hne2
            have ev9 : V.int (1 + (c9 : Int)) = vN (1 + c9) := by show _ = V.int _; rw [Int.natCast_add]; rfl
            exact ⟨D, H10, rfl, by rw [← ev9] at hp10; exact hp10, _, _, _, _, _, rfl, b10⟩
          · exact ⟨_, _, _, _, _, rfl, b8.wk (by omega)⟩
    · rintro σ' H5 ⟨o5, o6, o7, o8, o9, rfl, b⟩
      obtain ⟨kvs, hDk, db, hkl⟩ := b.kv
      refine ⟨_, rfl, D, .dT kvs, hDk, trivial, fun od => ?_⟩
      have fL : Fx [p, g] H (upd H5 D (.frz od (.dT kvs))) := b.fx.mu b.nD
      have PL : Pl (upd H5 D (.frz od (.dT kvs))) p g := b.pl.put b.nD2
      have hlk : (upd H5 D (.frz od (.dT kvs))) D = some (.frz od (.dT kvs)) := upd_same
      generalize upd H5 D (.frz od (.dT kvs)) = HL at fL PL hlk
      refine ⟨_, rfl, D, od, rfl, .inr ⟨kvs, hlk, fun C hC => lc_by kvs.length (fun i H' => ∃ l : List (List Nat × List Nat × Nat), Cmp rEd HL C l H' ∧ l.length = i ∧ ∀ e ∈ l, e.1.length ≤ 3 ∧ e.2.1.length ≤ 3 ∧ (∀ x ∈ e.1, x ∈ ls) ∧ e.1 ≠ e.2.1) ⟨[], Cmp.start hC, rfl, fun _ z => nomatch z⟩ (fun i H' hi ⟨l, c, _⟩ => ⟨c.fe.k hlk, hi⟩) (fun H' ⟨l, c, _⟩ => ⟨c.fe.k hlk, Nat.le_refl _⟩) ?_ ?_⟩⟩
      · rintro i xv H' H6 hi ⟨l, c, hll, hlo⟩ ⟨rfl, k, v, q, hkv, rfl, hq⟩
        obtain ⟨r1, w1, c1, hke, h1, h2, h3, h4⟩ := db (k, v) (List.mem_of_getElem? hkv)
        have hk1 : k = eK r1 w1 := congrArg Prod.fst hke
        obtain ⟨v', hv1, hv2⟩ := valV_mem (List.mem_of_getElem? hkv)
        obtain ⟨r2, w2, c2, hke2, _⟩ := db (k, v') hv2
        have hv' : v' = vN c2 := congrArg Prod.snd hke2
        subst hk1 hv'
        refine ⟨rfl, _, rfl, _, rfl, _, rfl, D, vN c2, rfl, by rw [← hv1]; exact .inr ⟨kvs, _, q, .inr ⟨od, c.fe.k hlk⟩, rfl, hq, rfl⟩, by show 1 ≤ sizeLine; decide, fun T hT => ?_⟩
        have gT := Fe.new (o := .tup [vN c2]) hT
        refine ⟨q, T, _, _, rfl, rfl, SqT.of (gT.k hq), SqT.of upd_same, (fun z => nomatch z), by show 3 ≤ sizeLine; decide, (fun z => nomatch z), fun _ T2 hT2 => ?_⟩
        have gT2 := Fe.new (o := .tup ((eK r1 w1).map kV ++ [vN c2])) hT2
        obtain ⟨acc, a1, a2, a3⟩ := c.add (x := (r1, w1, c2)) (y := .ref T2) (by omega) (gT.trans gT2) ⟨T2, _, _, _, rfl, upd_same, rfl, rfl, rfl⟩
        refine ⟨acc, a1, a2, _, a3, by rw [List.length_append, List.length_singleton]; omega, fun e he => ?_⟩
        rcases List.mem_append.mp he with he | he
        · exact hlo e he
        · rw [List.mem_singleton.mp he]; exact ⟨h1, h2, h3, h4⟩
      · rintro H6 ⟨l, c, hll, hlo⟩
        refine ⟨c.fe.k hlk, ?_⟩
        obtain ⟨_, vs0, eC, hCv, al⟩ := c.rl
        cases eC
        have nDC : D ≠ C := ne_of_none hlk hC
        have fD : Fx [D] H6 (upd H6 D (.dT kvs)) := Fx.put (c.fe.k hlk) (List.mem_singleton.mpr rfl) (fun _ z => nomatch z)
        have P7 : Pl (upd H6 D (.dT kvs)) p g := (PL.keep c.fe).put b.nD2
        have f7 : Fx [p, g] H (upd H6 D (.dT kvs)) := (fL.trans c.fe.to).mu b.nD
        have hC7 : (upd H6 D (.dT kvs)) C = some (.lst vs0) := by rw [upd_ne nDC.symm]; exact hCv
        have al7 := Al.mo fD al
        generalize upd H6 D (.dT kvs) = H7 at P7 f7 hC7 al7
        obtain ⟨ps, rfl, hpl, hps⟩ := tl_of edK (fun v x h => ed_key h) al7
        refine ⟨C, ps, [true, true, false], rfl, SqL.of hC7, fun pr hpr => ?_, by decide, fun ps' q hperm hq => ?_⟩
        · obtain ⟨e, _, e1, e2⟩ := hps pr hpr
          exact ⟨SqT.of e2, by rw [e1]; rfl⟩
        have gq := Fe.new (o := .lst (ps'.map fun q => V.ref q.1)) hq
        refine ⟨q, _, rfl, .inl ⟨SqL.of upd_same, fun u hu => ⟨by show 2 ≤ sizeLine; decide, fun Z hZ => ?_⟩⟩⟩
        have gu := Fe.new (o := .tup (ps'.map fun q => V.ref q.1)) hu
        have gZ := Fe.new (o := .tup [.str ⟨(ls).toArray⟩, .ref u]) hZ
        have g3 := (gq.trans gu).trans gZ
        obtain ⟨es, q1, q2, q3⟩ := tl_back (r := rEd) (H := upd (upd (upd H7 q (.lst (ps'.map fun q => V.ref q.1))) u (.tup (ps'.map fun q => V.ref q.1))) Z (.tup [.str ⟨(ls).toArray⟩, .ref u])) edK (fun a x h => ed_back h) l ps' fun pr hpr => by
          obtain ⟨e, h1, h2, h3⟩ := hps pr (hperm.mem_iff.mp hpr)
          exact ⟨e, h1, h2, g3.k h3⟩
        have hel : es.length ≤ n := by
          have := congrArg List.length q3
          rw [List.length_map, List.length_map, hperm.length_eq] at this
          omega
        refine kk _ es _ (f7.trans g3.to) (P7.keep g3) ⟨Z, _, _, rfl, upd_same, rfl, ⟨u, _, rfl, gZ.k upd_same, q1⟩⟩ ⟨by show es.length ≤ 60; omega, fun e he => (hlo e (q2 e he)).1, fun e he => (hlo e (q2 e he)).2.1, fun e he => (hlo e (q2 e he)).2.2.1, by show ls.length ≤ 100; omega⟩ (fun e he => (hlo e (q2 e he)).2.2.2) hel
end
end Fm
/-! a word spoilt -/
namespace Fm
open PySem L2
inductive Tr (b : Book) : List Nat → List Nat → Nat → Prop
  | nil : Tr b [] [] 0
  | snoc {t u r w : List Nat} {c d : Nat} : Tr b t u c → (r, w, d) ∈ alle b → Tr b (t ++ r) (u ++ w) (c + d)
theorem str_apps (a c : List Nat) : (⟨a.toArray⟩ : Str) ++ ⟨c.toArray⟩ = ⟨(a ++ c).toArray⟩ := by
  show (⟨a.toArray ++ c.toArray⟩ : Str) = _
  rw [List.append_toArray]
def spSpoilt : Sp := fun vs H Q _ => ∃ (p g : Addr) (b : Book) (v2 : V) (wd : List Nat), vs = [.ref p, v2, .str ⟨wd.toArray⟩] ∧ Pl H p g ∧ rBook H v2 b ∧ BOk b ∧ (∀ x ∈ wd, x ∈ b.1) ∧ wd.length ≤ 1000 ∧
  ∀ (q : Addr) (t : List Nat) (c : Nat) (H' : Hp), Fx [p, g] H H' → Pl H' p g → q ∉ [p, g] → H' q = some (.lst [.str ⟨t.toArray⟩, vN c]) → Tr b t wd c → (∀ x ∈ t, x ∈ b.1) → t.length ≤ 3 * wd.length → Q (.ref q) H'
section
variable {P : Program} {w : World} {K : PySem.W.Frag} {g : Str → Option Value} {base : Heap}
theorem ok_law_spoilt (T : Txt K g) : FnOk P w K g base CX0 2 T.d_law_spoilt.f T.d_law_spoilt.fd P_law_spoilt spSpoilt := by
  refine T.d_law_spoilt.F.ok sc_law_spoilt (fun vs H Q E h => ?_) (fun cdv A outer s H vs Q E hr h => ?_)
  · obtain ⟨_, _, _, _, _, rfl, _⟩ := h
    rfl
  · obtain ⟨p, g, b, v2, wd, rfl, hP, hb, bok, hwd, hwl, kk⟩ := h
    have hu := hu_of hr
    refine ⟨_, (pss_cons (ps_set (i := 3) sc_law_spoilt.nd rfl (by first | exact Or.inl rfl | exact Or.inr rfl) pe_str)
    (pss_cons (ps_set (i := 4) sc_law_spoilt.nd rfl (by first | exact Or.inl rfl | exact Or.inr rfl) pe_int)
    (pss_cons (ps_set (i := 5) sc_law_spoilt.nd rfl (by first | exact Or.inl rfl | exact Or.inr rfl) pe_int)
    (pss_cons (ps_while PassesOwn.never (pt_cmpR op_lt (pv 5) (pe_callB kc_lenS (by rfl) T.z_len PySem.boot_len (pa_cons (pv 2) pa_nil)) (nomark _))
      (pss_cons (ps_setLc (i := 6) (own := [("edit", 10)]) rfl sc_law_spoilt.nd rfl rfl (sw_true rfl rfl rfl (by decide +kernel)) (ki_tup (K := K) rfl (pe_ix (kx_tup (K := K) rfl) (pv 1) pe_int (fun _ _ => rfl))) (blkOk_by (N := N_law_spoilt) (sc := defScope s_law_spoilt) (by decide +kernel)) (fun _ _ _ _ _ => by exact (pg_name (i := 10) sc_law_spoilt.nd rfl (by first | exact Or.inl rfl | exact Or.inr rfl))) (fun _ _ _ _ _ => by exact pts_one (PW.pt (pw_and (pt_cmpR op_ne (pe_ix (kx_tup (K := K) rfl) (pv 10) pe_int (fun _ _ => rfl)) pe_str (nomark _)) (pw_and1 (pt_cmpR op_eq (pe_slice sl_str (pv 2) (po_some (pv 5)) (po_some (pe_op op_add (pv 5) (pe_callB kc_lenS (by rfl) T.z_len PySem.boot_len (pa_cons (pe_ix (kx_tup (K := K) rfl) (pv 10) pe_int (fun _ _ => rfl)) pa_nil))))) (pe_ix (kx_tup (K := K) rfl) (pv 10) pe_int (fun _ _ => rfl)) (nomark _)))))) (fun _ _ _ _ _ => by exact (pv 10)))
      (pss_one (ps_if (PW.pt (pw_and (pt_cmpR op_gt (pe_callB (kc_len (K := K) rfl) (by rfl) T.z_len PySem.boot_len (pa_cons (pv 6) pa_nil)) pe_int (nomark _)) (pw_and1 (pt_cmpR op_eq (pe_call (ok_law_draw T) (hr.mono (by decide)) rfl T.d_law_draw.mg T.d_law_draw.kp T.d_law_draw.b .nil pass0 (pa_cons (pv 0) (pa_cons pe_int pa_nil))) pe_int (nomark _)))))
        (pss_cons (ps_asg (pe_ix (kx_list (K := K) rfl) (pv 6) (pe_call (ok_law_draw T) (hr.mono (by decide)) rfl T.d_law_draw.mg T.d_law_draw.kp T.d_law_draw.b .nil pass0 (pa_cons (pv 0) (pa_cons (pe_callB (kc_len (K := K) rfl) (by rfl) T.z_len PySem.boot_len (pa_cons (pv 6) pa_nil)) pa_nil))) (fun _ _ => rfl)) (kg_tup (K := K) 3 rfl rfl (pgs_cons (pg_name (i := 7) sc_law_spoilt.nd rfl (by first | exact Or.inl rfl | exact Or.inr rfl)) (pgs_cons (pg_name (i := 8) sc_law_spoilt.nd rfl (by first | exact Or.inl rfl | exact Or.inr rfl)) (pgs_cons (pg_name (i := 9) sc_law_spoilt.nd rfl (by first | exact Or.inl rfl | exact Or.inr rfl)) pgs_nil)))))
        (pss_cons (ps_set (i := 3) sc_law_spoilt.nd rfl (by first | exact Or.inl rfl | exact Or.inr rfl) (pe_op op_add_str (pv 3) (pv 7)))
        (pss_cons (ps_set (i := 4) sc_law_spoilt.nd rfl (by first | exact Or.inl rfl | exact Or.inr rfl) (pe_op op_add (pv 4) (pv 9)))
        (pss_one (ps_set (i := 5) sc_law_spoilt.nd rfl (by first | exact Or.inl rfl | exact Or.inr rfl) (pe_op op_add (pv 5) (pe_callB kc_lenS (by rfl) T.z_len PySem.boot_len (pa_cons (pv 8) pa_nil))))))))
        (pss_cons (ps_set (i := 3) sc_law_spoilt.nd rfl (by first | exact Or.inl rfl | exact Or.inr rfl) (pe_op op_add_str (pv 3) (pe_ix ix_str (pv 2) (pv 5) (fun _ _ => rfl))))
        (pss_one (ps_aug (i := 5) sc_law_spoilt.nd rfl (by first | exact Or.inl rfl | exact Or.inr rfl) pe_int ip_add)))))))
    (pss_one (ps_ret (pe_lst (pa_cons (pv 3) (pa_cons (pv 4) pa_nil))))))))), ?_⟩
    obtain ⟨ba, bx, by_, rfl, hba, rfl, ⟨ea, exs, rfl, hea, hal⟩⟩ := id hb
    have hbk : rBook H (.ref ba) b := hb
    -- the loop
    refine while_by (σ := [some (.ref p), some (.ref ba), some (.str ⟨wd.toArray⟩), some (.str ⟨([] : List Nat).toArray⟩), some (.int 0), some (.int 0), none, none, none, none, none]) (fun σ' H' => ∃ (t : List Nat) (c pl : Nat) (o6 o7 o8 o9 : Option V), σ' = [some (.ref p), some (.ref ba), some (.str ⟨wd.toArray⟩), some (.str ⟨t.toArray⟩), some (vN c), some (vN pl), o6, o7, o8, o9, none] ∧ Fx [p, g] H H' ∧ Pl H' p g ∧ pl ≤ wd.length ∧ Tr b t (wd.take pl) c ∧ (∀ x ∈ t, x ∈ b.1) ∧ t.length ≤ 3 * pl)
      (fun σ' _ => wd.length - (slotI σ' 5).toNat) ⟨[], 0, 0, _, _, _, _, rfl, Fx.refl _ _, hP, Nat.zero_le _, Tr.nil, (fun _ h => nomatch h), Nat.le_refl _⟩ ?_ ?_
    · rintro σ' H1 ⟨t, c, pl, o6, o7, o8, o9, rfl, f1, P1, hpl, htr, htl, htn⟩
      have hba1 := f1.tups _ _ hba
      have hea1 := f1.tups _ _ hea
      have hal1 : Al rEd H1 exs b.2 := Al.mo f1 hal
      refine ⟨_, rfl, _, rfl, _, rfl, by rw [slen, sizeLine_eq]; omega, _, _, rfl, rfl, _, rfl, ?_⟩
      rw [slen]
      by_cases hlt : pl < wd.length
      · rw [decide_eq_true (by omega)]
        refine iteT ?_
        refine ⟨_, rfl, ba, _, _, _, rfl, rfl, SqT.of hba1, atI_nat (j := 1) rfl, ea, rfl, ⟨_, SqT.of hea1⟩, fun D hD => lc_tup (xs := exs) (fun i H' => ∃ l : List (List Nat × List Nat × Nat), Cmp rEd H1 D l H' ∧ l.length ≤ i ∧ ∀ e ∈ l, e ∈ b.2 ∧ e.2.1 ≠ [] ∧ (wd.drop pl).take e.2.1.length = e.2.1) ⟨[], Cmp.start hD, Nat.le_refl _, fun _ z => nomatch z⟩ (fun i H' hi ⟨l, c, _⟩ => SqT.of (c.fe.k hea1)) (fun i xv H' hx ⟨l, cm, hll, hlo⟩ => ?_) (fun H2 ⟨l, cm, hll, hlo⟩ => ?_)⟩
        · obtain ⟨e, he, her⟩ := hal1.get hx
          have hem := List.mem_of_getElem? he
          have her' := Mo.mo (r := rEd) cm.fe her
          obtain ⟨u2, y1, y2, y3, rfl, hu3, rfl, rfl, rfl⟩ := id her'
          have hil : i < b.2.length := (List.getElem?_eq_some_iff.mp he).1
          have hbf := bok.few
          refine ⟨rfl, _, rfl, u2, _, _, _, rfl, rfl, SqT.of hu3, atI_nat (j := 1) rfl, rfl, _, rfl, ?_⟩
          rw [dec_str_nil]
          have keep : (∃ l : List (List Nat × List Nat × Nat), Cmp rEd H1 D l H' ∧ l.length ≤ i + 1 ∧ ∀ e ∈ l, e ∈ b.2 ∧ e.2.1 ≠ [] ∧ (wd.drop pl).take e.2.1.length = e.2.1) := ⟨l, cm, by omega, hlo⟩
          by_cases hne : e.2.1 = []
          · rw [decide_eq_true hne]
            exact iteF (iteF keep)
          · rw [decide_eq_false hne]
            have hsz : ((⟨e.2.1.toArray⟩ : Str).length : Nat) = e.2.1.length := slen _
            have h3 := bok.len2 e hem
            refine iteT ⟨_, rfl, _, rfl, _, rfl, _, rfl, _, rfl, u2, _, _, _, rfl, rfl, SqT.of hu3, atI_nat (j := 1) rfl, _, rfl, by rw [slen, sizeLine_eq]; omega, _, _, rfl, rfl, _, rfl, _, rfl, by rw [slen, sizeLine_eq]; omega, _, rfl, u2, _, _, _, rfl, rfl, SqT.of hu3, atI_nat (j := 1) rfl, rfl, _, rfl, ?_⟩
            rw [hsz, cut_mid wd pl e.2.1.length hpl]
            by_cases hm : (wd.drop pl).take e.2.1.length = e.2.1
            · rw [decide_eq_true (by rw [hm])]
              obtain ⟨acc, a1, a2, a3⟩ := cm.add (x := e) (y := .ref u2) (by omega) (Fx.refl _ _) her'
              refine iteT ⟨_, rfl, acc, a1, a2, l ++ [e], a3, by rw [List.length_append, List.length_singleton]; omega, fun e' he' => ?_⟩
              rcases List.mem_append.mp he' with h | h
              · exact hlo e' h
              · rw [List.mem_singleton.mp h]; exact ⟨hem, hne, hm⟩
            · rw [decide_eq_false (fun z => hm (by injection z with z; injection z with z; have := congrArg Array.toList z; simpa using this))]
              exact iteF keep
        · obtain ⟨_, fv, eD, hDv, alf⟩ := cm.rl
          cases eD
          have nD : D ∉ [p, g] := (P1.nw hD)
          have P2 := P1.keep cm.fe
          have f2 := f1.trans cm.fe.to
          have hfl := alf.len
          have hbf := bok.few
          have hel := hal.len
          refine ⟨_, rfl, D, _, rfl, .inl (SqL.of hDv), _, _, rfl, rfl, _, rfl, ?_⟩
          have step : ∀ (H3 : Hp), Fx [p, g] H H3 → Pl H3 p g → ∃ x : Nat, wd[pl]? = some x := fun _ _ _ => ⟨_, List.getElem?_eq_getElem hlt⟩
          by_cases hl0 : 0 < l.length
          · rw [decide_eq_true (by rw [hfl]; omega)]
            refine iteT ⟨_, rfl, p, g, 3, rfl, P2, by omega, by omega, fun k3 H3 f3 P3 hk3 => ?_⟩
            have f23 := f2.trans f3
            have hD3 := f3.keep _ _ nD hDv
            have alf3 : Al rEd H3 fv l := Al.mo f3 alf
            refine ⟨rfl, _, rfl, ?_⟩
            refine ite2 (fun _ => ?_) (fun _ => ?_)
            · refine ⟨_, rfl, _, rfl, _, rfl, D, _, rfl, .inl (SqL.of hD3), p, g, l.length, by rw [hfl]; rfl, P3, by omega, by omega, fun k4 H4 f4 P4 hk4 => ?_⟩
              have hD4 := f4.keep _ _ nD hD3
              have alf4 : Al rEd H4 fv l := Al.mo f4 alf3
              have hfk : fv[k4]? = some fv[k4] := List.getElem?_eq_getElem (by omega)
              obtain ⟨e, he, her⟩ := alf4.get hfk
              obtain ⟨u2, y1, y2, y3, hu0, hu3, rfl, rfl, rfl⟩ := id her
              rw [hu0] at hfk
              obtain ⟨e1, e2, e3⟩ := hlo e (List.mem_of_getElem? he)
              have hcon := congrArg List.length e3
              rw [List.length_take, List.length_drop] at hcon
              have hr3 := bok.len e e1
              have hw0 := List.length_pos_iff.mpr e2
              refine ⟨D, _, _, _, rfl, rfl, SqL.of hD4, atI_nat hfk, u2, _, rfl, SqT.of hu3, rfl, _, _, rfl, _, _, rfl, _, _, rfl, rfl, ?_⟩
              refine ⟨_, rfl, _, rfl, _, _, rfl, rfl, by rw [slen, slen, sizeLine_eq]; omega, ?_⟩
              refine ⟨_, rfl, _, rfl, _, _, rfl, rfl, ?_⟩
              refine ⟨_, rfl, _, rfl, _, rfl, by rw [slen, sizeLine_eq]; omega, _, _, rfl, rfl, ?_⟩
              rw [slen]
              have htr2 : Tr b (t ++ e.1) (wd.take (pl + e.2.1.length)) (c + e.2.2) := by
                rw [List.take_add, e3]
                exact Tr.snoc htr (List.mem_append_left _ e1)
              refine ⟨⟨t ++ e.1, c + e.2.2, pl + e.2.1.length, some (.ref D), some (.str ⟨e.1.toArray⟩), some (.str ⟨e.2.1.toArray⟩), some (.int (e.2.2 : Int)), ?_, f23.trans f4, P4, by omega, htr2, fun x hx => ?_, by rw [List.length_append]; omega⟩, ?_⟩
              · show [some (V.ref p), some (V.ref ba), some (V.str ⟨wd.toArray⟩), some (V.str (⟨t.toArray⟩ ++ ⟨e.1.toArray⟩)), some (V.int ((c : Int) + (e.2.2 : Int))), some (V.int ((pl : Int) + (e.2.1.length : Int))), some (.ref D), some (.str ⟨e.1.toArray⟩), some (.str ⟨e.2.1.toArray⟩), some (.int (e.2.2 : Int)), none] = _
                rw [str_apps]; rfl
              · rcases List.mem_append.mp hx with h | h
                · exact htl x h
                · exact bok.lets e e1 x h
              · show wd.length - ((pl : Int) + (e.2.1.length : Int)).toNat < wd.length - (pl : Int).toNat
                omega
            ·
              obtain ⟨x, hx⟩ := step H3 f23 P3
              refine ⟨_, rfl, _, rfl, _, rfl, ⟨wd.toArray⟩, _, x, rfl, rfl, by rw [slen, sizeLine_eq]; omega, atI_nat hx, _, _, rfl, rfl, by show (⟨t.toArray⟩ : Str).length + 1 ≤ _; rw [slen, sizeLine_eq]; omega, ?_⟩
              refine ⟨_, rfl, _, _, rfl, rfl, ?_⟩
              have hxb : x ∈ b.1 := hwd x (List.mem_of_getElem? hx)
              have htr2 : Tr b (t ++ [x]) (wd.take (pl + 1)) (c + 0) := by
                rw [List.take_add_one, hx]
                exact Tr.snoc htr (List.mem_append_right _ (List.mem_map.mpr ⟨x, hxb, rfl⟩))
              refine ⟨⟨t ++ [x], c, pl + 1, some (.ref D), o7, o8, o9, ?_, f23, P3, by omega, htr2, fun y hy => ?_, by rw [List.length_append, List.length_singleton]; omega⟩, ?_⟩
              · show [some (V.ref p), some (V.ref ba), some (V.str ⟨wd.toArray⟩), some (V.str (⟨t.toArray⟩ ++ ⟨#[x]⟩)), some (V.int (c : Int)), some (V.int ((pl : Int) + 1)), some (.ref D), o7, o8, o9, none] = _
                rw [← str_app]; rfl
              · rcases List.mem_append.mp hy with h | h
                · exact htl y h
                · rw [List.mem_singleton.mp h]; exact hxb
              · show wd.length - ((pl : Int) + 1).toNat < wd.length - (pl : Int).toNat
                omega
          · rw [decide_eq_false (by rw [hfl]; omega)]
            refine iteF ?_
            have f23 := f2
            have P3 := P2
            revert f23 P3
            generalize H2 = H3
            intro f23 P3
            obtain ⟨x, hx⟩ := step H3 f23 P3
            refine ⟨_, rfl, _, rfl, _, rfl, ⟨wd.toArray⟩, _, x, rfl, rfl, by rw [slen, sizeLine_eq]; omega, atI_nat hx, _, _, rfl, rfl, by show (⟨t.toArray⟩ : Str).length + 1 ≤ _; rw [slen, sizeLine_eq]; omega, ?_⟩
            refine ⟨_, rfl, _, _, rfl, rfl, ?_⟩
            have hxb : x ∈ b.1 := hwd x (List.mem_of_getElem? hx)
            have htr2 : Tr b (t ++ [x]) (wd.take (pl + 1)) (c + 0) := by
              rw [List.take_add_one, hx]
              exact Tr.snoc htr (List.mem_append_right _ (List.mem_map.mpr ⟨x, hxb, rfl⟩))
            refine ⟨⟨t ++ [x], c, pl + 1, some (.ref D), o7, o8, o9, ?_, f23, P3, by omega, htr2, fun y hy => ?_, by rw [List.length_append, List.length_singleton]; omega⟩, ?_⟩
            · show [some (V.ref p), some (V.ref ba), some (V.str ⟨wd.toArray⟩), some (V.str (⟨t.toArray⟩ ++ ⟨#[x]⟩)), some (V.int (c : Int)), some (V.int ((pl : Int) + 1)), some (.ref D), o7, o8, o9, none] = _
              rw [← str_app]; rfl
            · rcases List.mem_append.mp hy with h | h
              · exact htl y h
              · rw [List.mem_singleton.mp h]; exact hxb
            · show wd.length - ((pl : Int) + 1).toNat < wd.length - (pl : Int).toNat
              omega
      · rw [decide_eq_false (by omega)]
        refine iteF ?_
        have hpe : pl = wd.length := by omega
        refine ⟨_, rfl, _, rfl, by show 2 ≤ sizeLine; decide, fun R hR => ?_⟩
        have gR := Fe.new (o := .lst [.str ⟨t.toArray⟩, vN c]) hR
        rw [hpe, List.take_length] at htr
        exact kk R t c _ (f1.trans gR.to) (P1.keep gR) (P1.nw hR) upd_same htr htl (by omega)
    · intro σ H Q Q' hq h
      obtain ⟨v, e, v2, e2, z, e3, h3, i, j, e4, e5, b, e6, h6⟩ := h
      exact ⟨v, e, v2, e2, z, e3, h3, i, j, e4, e5, b, e6, hq _ _ h6⟩
end
end Fm
/-! the rests, by the law -/
namespace Fm
open PySem L2
theorem rest_drop {b : Book} {e : List Nat × List Nat × Nat} (h : e ∈ b.2) {k : Nat} (hk : 1 ≤ k) : Rest b (e.1.drop k) := by
  by_cases q : k < e.1.length
  · exact .inr ⟨e, k, h, hk, q, rfl⟩
  · exact .inl (List.drop_of_length_le (by omega))
theorem perm_lift2 {l m : List (List Nat)} (h : (l.map tS).Perm (m.map tS)) : ∃ l', l'.Perm m ∧ l = l' := by
  have h2 := h.map fun k : Str => k.cps.toList
  rw [List.map_map, List.map_map] at h2
  have e : ∀ l : List (List Nat), l.map ((fun k : Str => k.cps.toList) ∘ tS) = l := fun l => by
    exact (List.map_congr_left fun k _ => rfl).trans (List.map_id l)
  rw [e, e] at h2
  exact ⟨l, h2, rfl⟩
def spRests : Sp := fun vs H Q _ => ∃ (b : Book) (v1 : V), vs = [v1] ∧ rBook H v1 b ∧ BOk b ∧ RsB b ∧ ∀ (q : Addr) (rs : List (List Nat)) (H' : Hp), Fe H H' → H' q = some (.lst (rs.map fun r => V.str (tS r))) → RsOf b rs → Q (.ref q) H'
section
variable {P : Program} {w : World} {K : PySem.W.Frag} {g : Str → Option Value} {base : Heap}
theorem ok_law_rests (T : Txt K g) : FnOk P w K g base CX0 1 T.d_law_rests.f T.d_law_rests.fd P_law_rests spRests := by
  refine T.d_law_rests.F.ok sc_law_rests (fun vs H Q E h => ?_) (fun cdv A outer s H vs Q E hr h => ?_)
  · obtain ⟨_, _, rfl, _⟩ := h
    rfl
  · obtain ⟨b, v1, rfl, hb, bok, hrs, kk⟩ := h
    have hu := hu_of hr
    refine ⟨_, (pss_cons (ps_set (i := 1) sc_law_rests.nd rfl (by first | exact Or.inl rfl | exact Or.inr rfl) (pe_lst (pa_cons pe_str pa_nil)))
    (pss_cons (ps_for PassesOwn.never rfl (ki_tup (K := K) rfl (pe_ix (kx_tup (K := K) rfl) (pv 0) pe_int (fun _ _ => rfl))) (kg_tup (K := K) 3 rfl rfl (pgs_cons (pg_name (i := 2) sc_law_rests.nd rfl (by first | exact Or.inl rfl | exact Or.inr rfl)) (pgs_cons (pg_name (i := 3) sc_law_rests.nd rfl (by first | exact Or.inl rfl | exact Or.inr rfl)) (pgs_cons (pg_name (i := 4) sc_law_rests.nd rfl (by first | exact Or.inl rfl | exact Or.inr rfl)) pgs_nil))))
      (pss_one (ps_set (i := 1) sc_law_rests.nd rfl (by first | exact Or.inl rfl | exact Or.inr rfl) (pe_op op_cat (pv 1) (pe_lst (pa_cons (pe_slice sl_str (pv 2) (po_some pe_int) po_none) (pa_cons (pe_slice sl_str (pv 2) (po_some pe_int) po_none) pa_nil)))))))
    (pss_one (ps_ret (pe_callB (kc_sortedSetS (P := P) (w := w) rfl rfl rfl) (by rfl) T.z_sorted (by decide +kernel) (pa_cons (pe_callTy (kc_setS (K := K) (P := P) (w := w) rfl rfl rfl rfl) (by rfl) T.z_set (by decide +kernel) (pa_cons (pv 1) pa_nil)) pa_nil)))))), ?_⟩
    obtain ⟨ba, bx, by_, rfl, hba, rfl, ⟨ea, exs, rfl, hea, hal⟩⟩ := id hb
    refine ⟨by show 1 ≤ sizeLine; decide, fun R0 hR0 => ?_⟩
    have g0 := Fe.new (o := .lst [V.str ""]) hR0
    have hel := hal.len
    have hbf := bok.few
    refine ⟨_, rfl, ba, _, _, _, rfl, rfl, SqT.of (g0.k hba), atI_nat (j := 1) rfl, ea, rfl, ⟨_, SqT.of (g0.k hea)⟩, for_tup (K := K) (a := ea) (xs := exs) (fun i σ' H' => ∃ (R : Addr) (ss : List (List Nat)) (o2 o3 o4 : Option V), σ' = [some (.ref ba), some (.ref R), o2, o3, o4] ∧ Fe H H' ∧ H' R = some (.lst (ss.map fun r => V.str (tS r))) ∧
      [] ∈ ss ∧ (∀ r ∈ ss, Rest b r) ∧ (∀ e ∈ b.2.take i, e.1.drop 1 ∈ ss ∧ e.1.drop 2 ∈ ss) ∧ ss.length ≤ 1 + 2 * i) ⟨R0, [[]], _, _, _, rfl, g0, upd_same, List.mem_cons_self, fun r hr => by rw [List.mem_singleton.mp hr]; exact .inl rfl, (fun _ h => nomatch h), Nat.le_refl _⟩ (fun i σ' H' _ ⟨_, _, _, _, _, _, e, _⟩ => SqT.of (e.k hea)) ?_ ?_⟩
    · rintro i x σ' H1 hx ⟨R, ss, o2, o3, o4, rfl, e1, hR, h0, hre, hin, hll⟩
      obtain ⟨e, he, her⟩ := hal.get hx
      have hem := List.mem_of_getElem? he
      have hil : i < b.2.length := (List.getElem?_eq_some_iff.mp he).1
      obtain ⟨u2, y1, y2, y3, rfl, hu3, rfl, rfl, rfl⟩ := id her
      have h3 := bok.len e hem
      refine ⟨u2, _, rfl, SqT.of (e1.k hu3), rfl, _, _, rfl, _, _, rfl, _, _, rfl, rfl, ?_⟩
      refine ⟨_, rfl, _, rfl, _, rfl, _, rfl, by rw [slen, sizeLine_eq]; omega, _, rfl, _, rfl, _, rfl, by rw [slen, sizeLine_eq]; omega, by show 2 ≤ sizeLine; decide, fun Lb hLb => ?_⟩
      have gb := Fe.new (o := .lst [V.str (cutS ⟨e.1.toArray⟩ (some 1) none), V.str (cutS ⟨e.1.toArray⟩ (some 2) none)]) hLb
      refine ⟨R, Lb, _, _, rfl, rfl, gb.k hR, upd_same, by rw [List.length_map, sizeLine_eq]; show ss.length + 2 ≤ _; omega, fun R2 hR2 => ?_⟩
      have gc := gb.trans (Fe.new (o := .lst ((ss.map fun r => V.str (tS r)) ++ [V.str (cutS ⟨e.1.toArray⟩ (some 1) none), V.str (cutS ⟨e.1.toArray⟩ (some 2) none)])) hR2)
      refine ⟨R2, ss ++ [e.1.drop 1, e.1.drop 2], _, _, _, rfl, e1.trans gc, ?_, List.mem_append_left _ h0, fun r hr => ?_, fun e' he' => ?_, by rw [List.length_append]; show ss.length + 2 ≤ _; omega⟩
      · rw [upd_same, List.map_append]
        have c1 : cutS ⟨e.1.toArray⟩ (some 1) none = tS (e.1.drop 1) := cut_from e.1 1
        have c2 : cutS ⟨e.1.toArray⟩ (some 2) none = tS (e.1.drop 2) := cut_from e.1 2
        rw [c1, c2]; rfl
      · rcases List.mem_append.mp hr with h | h
        · exact hre r h
        · rcases List.mem_cons.mp h with rfl | h
          · exact rest_drop hem (by decide)
          · rw [List.mem_singleton.mp h]; exact rest_drop hem (by decide)
      · rw [List.take_add_one, he] at he'
        rcases List.mem_append.mp he' with h | h
        · exact ⟨List.mem_append_left _ (hin e' h).1, List.mem_append_left _ (hin e' h).2⟩
        · rw [List.mem_singleton.mp h]
          exact ⟨List.mem_append_right _ List.mem_cons_self, List.mem_append_right _ (List.mem_cons_of_mem _ List.mem_cons_self)⟩
    · rintro σ' H1 ⟨R, ss, o2, o3, o4, rfl, e1, hR, h0, hre, hin, hll⟩
      rw [hel, List.take_length] at hin
      refine ⟨_, rfl, R, ss.map tS, rfl, by rw [List.map_map]; exact SqL.of hR, by rw [List.length_map]; omega, fun a L ha hnd hmem => ?_⟩
      have g1 := Fe.new (o := SetXO P w a L) ha
      obtain ⟨rs, rfl⟩ : ∃ rs, L = rs.map tS := ⟨L.map fun k => k.cps.toList, by rw [List.map_map]; exact ((List.map_congr_left fun k _ => rfl).trans (List.map_id L)).symm⟩
      have hnd2 : rs.Nodup := by
        rw [List.nodup_iff_pairwise_ne] at hnd ⊢
        rw [List.pairwise_map] at hnd
        exact hnd.imp fun h z => h (by rw [z])
      have hrm : ∀ r, r ∈ rs ↔ r ∈ ss := fun r => by
        have h1 := hmem (tS r)
        have inj : ∀ l : List (List Nat), tS r ∈ l.map tS ↔ r ∈ l := fun l => by
          constructor
          · intro h
            obtain ⟨r', h1, h2⟩ := List.mem_map.mp h
            have : r' = r := by
              have := congrArg (fun z : Str => z.cps.toList) h2
              simpa using this
            exact this ▸ h1
          · intro h
            exact List.mem_map.mpr ⟨r, h, rfl⟩
        rw [inj, inj] at h1
        exact h1
      have hr61 : rs.length ≤ 61 := hrs rs hnd2 fun r hr => hre r ((hrm r).mp hr)
      refine ⟨a, rs.map tS, rfl, upd_same, by rw [List.length_map]; omega, fun ys q hpm hso hq => ?_⟩
      have g2 := g1.trans (Fe.new (o := .lst (ys.map V.str)) hq)
      obtain ⟨rs2, rfl⟩ : ∃ rs2, ys = rs2.map tS := ⟨ys.map fun k => k.cps.toList, by rw [List.map_map]; exact ((List.map_congr_left fun k _ => rfl).trans (List.map_id ys)).symm⟩
      obtain ⟨rs3, hp3, he3⟩ := perm_lift2 hpm
      have : rs2 = rs3 := he3
      subst this
      refine kk q rs2 _ (e1.trans g2) (by rw [upd_same, List.map_map]; rfl) ⟨hp3.nodup_iff.mpr hnd2, hso, fun r => ?_⟩
      rw [hp3.mem_iff, hrm]
      refine ⟨hre r, fun h => ?_⟩
      rcases h with rfl | ⟨e, k, h1, h2, h3, rfl⟩
      · exact h0
      · have := bok.len e h1
        rcases (by omega : k = 1 ∨ k = 2) with rfl | rfl
        · exact (hin e h1).1
        · exact (hin e h1).2
end
end Fm
/-! the row of costs, by whole operations -/
namespace Fm
open PySem L2
/-- what the law counts for a standing -/
def Due (b : Book) (m : Mach) (t : List Nat) (s : Stg) (c : Nat) : Prop := (s.2 = [] ∧ Wh b m t 0 t.length s.1 c) ∨ ∃ (pl q c0 : Nat) (r0 : List Nat) (d : Nat), t.length - 2 ≤ pl ∧ pl < t.length ∧ s.2 ≠ [] ∧ r0 = t.drop pl ++ s.2 ∧ Wh b m t 0 pl q c0 ∧ OpS b m r0 d q s.1 ∧ c = c0 + d
theorem ops_len {b : Book} (bok : BOk b) {m : Mach} {r : List Nat} {d q p : Nat} (o : OpS b m r d q p) : r.length ≤ 3 := by
  rcases ops_cases o with ⟨x, rfl, _⟩ | ⟨w, h, _⟩
  · show 1 ≤ 3; omega
  · exact bok.len _ h
theorem due_rs {b : Book} {m : Mach} (pok : POk b m) {t : List Nat} {s : Stg} {c : Nat} : Due b m t s c ↔ Rs b m t s c := by
  constructor
  · rintro (⟨h1, h2⟩ | ⟨pl, q, c0, r0, d, h1, h2, h3, rfl, h5, h6, rfl⟩)
    · have := wh_rs h2
      rw [List.take_length] at this
      obtain ⟨p, r⟩ := s
      have h1 : r = [] := h1
      subst h1
      exact this
    · have := rs_begin (a := t.drop pl) (r := s.2) (p := s.1) (by rw [Ne, List.drop_eq_nil_iff]; omega) (wh_rs h5) h6
      rw [List.take_append_drop] at this
      exact this
  · intro h
    obtain ⟨h1, h2⟩ := rs_wh pok h t (List.take_length ..)
    by_cases q : s.2 = []
    · exact .inl ⟨q, h1 q⟩
    · obtain ⟨pl, q', c', r0, d, k1, k2, k3, k4, k5⟩ := h2 q
      refine .inr ⟨pl, q', c', r0, d, ?_, k1, q, k3, k2, k4, k5⟩
      have := ops_len pok.bk k4
      rw [k3, List.length_append, List.length_drop] at this
      have := List.length_pos_iff.mpr q
      omega
/-- the dict holds the least so far -/
def RelD (kvs : List (List Key × V)) (A : Stg → Nat → Prop) : Prop := ∀ s : Stg, ∃ o : Option Nat, ((valV kvs (kSt s) = none ∧ o = none) ∨ valV kvs (kSt s) = some (oV o)) ∧ Least (A s) o
structure KeyD (sts : List Stg) (kvs : List (List Key × V)) : Prop where
  nd : (kvs.map (·.1)).Nodup
  mem : ∀ k ∈ kvs.map (·.1), k ∈ sts.map kSt
theorem putK_keys {κ : Type} [DecidableEq κ] {kvs : List (κ × V)} {k : κ} {v : V} : (putK kvs k v).map (·.1) = if k ∈ kvs.map (·.1) then kvs.map (·.1) else kvs.map (·.1) ++ [k] := by
  have hm : (kvs.any fun p => decide (p.1 = k)) = decide (k ∈ kvs.map (·.1)) := by
    rw [Bool.eq_iff_iff, List.any_eq_true, decide_eq_true_eq, List.mem_map]
    constructor
    · rintro ⟨x, h1, h2⟩; exact ⟨x, h1, of_decide_eq_true h2⟩
    · rintro ⟨x, h1, h2⟩; exact ⟨x, h1, decide_eq_true h2⟩
  unfold putK
  rw [hm]
  by_cases q : k ∈ kvs.map (·.1)
  · rw [decide_eq_true q, if_pos rfl, if_pos q, List.map_map]
    refine List.map_congr_left fun p hp => ?_
    show (if p.1 = k then (p.1, v) else p).1 = p.1
    split <;> rfl
  · rw [decide_eq_false q, if_neg (by decide), if_neg q, List.map_append]; rfl
theorem KeyD.put {sts : List Stg} {kvs : List (List Key × V)} (h : KeyD sts kvs) {s : Stg} (hs : s ∈ sts) (v : V) : KeyD sts (putK kvs (kSt s) v) where
  nd := by
    rw [putK_keys]
    split
    · exact h.nd
    · rename_i q
      rw [List.nodup_append]
      exact ⟨h.nd, by simp, fun a ha c hc e => q (by rw [List.mem_singleton.mp hc] at e; exact e ▸ ha)⟩
  mem := fun k hk => by
    rw [putK_keys] at hk
    split at hk
    · exact h.mem k hk
    · rcases List.mem_append.mp hk with hk | hk
      · exact h.mem k hk
      · rw [List.mem_singleton.mp hk]; exact List.mem_map.mpr ⟨s, hs, rfl⟩
theorem KeyD.len {sts : List Stg} {kvs : List (List Key × V)} (h : KeyD sts kvs) : kvs.length ≤ sts.length := by
  have := nodup_sub _ _ h.nd h.mem
  rw [List.length_map, List.length_map] at this
  exact this
theorem least_put {A : Nat → Prop} {o : Option Nat} (L : Least A o) {v : Nat} (h : Bet o v) : Least (fun c => A c ∨ c = v) (some v) := by
  refine ⟨.inr rfl, fun c hc => ?_⟩
  rcases hc with hc | rfl
  · cases o with
    | none => exact absurd hc (L c)
    | some e => exact Nat.le_trans (Nat.le_of_lt (h e rfl)) (L.2 c hc)
  · exact Nat.le_refl _
theorem least_keep {A : Nat → Prop} {o : Option Nat} (L : Least A o) {v : Nat} (h : ¬ Bet o v) : Least (fun c => A c ∨ c = v) o := by
  cases o with
  | none => exact absurd bet_none h
  | some e =>
    refine ⟨.inl L.1, fun c hc => ?_⟩
    rcases hc with hc | rfl
    · exact L.2 c hc
    · have : ¬ c < e := fun z => h (bet_some.mpr z)
      omega
def ValD (kvs : List (List Key × V)) (s : Stg) (o : Option Nat) : Prop := (valV kvs (kSt s) = none ∧ o = none) ∨ valV kvs (kSt s) = some (oV o)
theorem RelD.put {kvs : List (List Key × V)} {A : Stg → Nat → Prop} (R : RelD kvs A) {s : Stg} {o : Option Nat} {v : Nat} (hv : ValD kvs s o) (L : Least (A s) o) (h : Bet o v) : RelD (putK kvs (kSt s) (vN v)) (fun s' c => A s' c ∨ (s' = s ∧ c = v)) := by
  intro s'
  by_cases q : s' = s
  · subst q
    refine ⟨some v, .inr (by rw [valV_put, if_pos rfl]; rfl), (least_put L h).congr fun c => ?_⟩
    exact ⟨fun z => z.imp id fun z => ⟨rfl, z⟩, fun z => z.imp id fun z => z.2⟩
  · obtain ⟨o', h1, h2⟩ := R s'
    refine ⟨o', ?_, h2.congr fun c => ⟨fun z => .inl z, fun z => z.elim id fun z => absurd z.1 q⟩⟩
    rw [valV_put, if_neg (fun z => q (kSt_inj z))]
    exact h1
theorem RelD.keep {kvs : List (List Key × V)} {A : Stg → Nat → Prop} (R : RelD kvs A) {s : Stg} {o : Option Nat} {v : Nat} (hv : ValD kvs s o) (L : Least (A s) o) (h : ¬ Bet o v) : RelD kvs (fun s' c => A s' c ∨ (s' = s ∧ c = v)) := by
  intro s'
  obtain ⟨o', h1, h2⟩ := R s'
  by_cases q : s' = s
  · subst q
    refine ⟨o', h1, ?_⟩
    have e : o' = o := h2.uniq L
    subst e
    exact (least_keep L h).congr fun c => ⟨fun z => z.imp id fun z => ⟨rfl, z⟩, fun z => z.imp id fun z => z.2⟩
  · exact ⟨o', h1, h2.congr fun c => ⟨fun z => .inl z, fun z => z.elim id fun z => absurd z.1 q⟩⟩
theorem RelD.congr {kvs : List (List Key × V)} {A B : Stg → Nat → Prop} (R : RelD kvs A) (h : ∀ s c, A s c ↔ B s c) : RelD kvs B := fun s => by
  obtain ⟨o, h1, h2⟩ := R s
  exact ⟨o, h1, h2.congr (h s)⟩
end Fm
/-! _law_due_row -/
namespace Fm
open PySem L2
/-! candidates, as the loops meet them -/
def hitD (t : List Nat) (pl : Nat) (op : Op) : Prop := t.length - pl < op.1.length ∧ op.1.take (t.length - pl) = t.drop pl
def Cd3 (t : List Nat) (rows : List CRow) (op : Op) (pl j : Nat) (s : Stg) (c : Nat) : Prop := ∃ (row : CRow) (q c0 : Nat) (tr : List Nat) (p : Nat), rows[pl]? = some row ∧ q < j ∧ row[q]? = some (some c0) ∧ op.2.2.2[q]? = some tr ∧ p ∈ tr ∧ s = (p, op.1.drop (t.length - pl)) ∧ c = c0 + op.2.2.1
def Cd2 (t : List Nat) (rows : List CRow) (ops : List Op) (n pl i : Nat) (s : Stg) (c : Nat) : Prop := ∃ (i' : Nat) (op : Op), i' < i ∧ ops[i']? = some op ∧ hitD t pl op ∧ Cd3 t rows op pl n s c
def Cd1 (t : List Nat) (rows : List CRow) (ops : List Op) (n k : Nat) (s : Stg) (c : Nat) : Prop := ∃ pl, t.length - 2 ≤ pl ∧ pl < t.length - 2 + k ∧ Cd2 t rows ops n pl ops.length s c
def Cd0 (last : CRow) (i : Nat) (s : Stg) (c : Nat) : Prop := s.2 = [] ∧ s.1 < i ∧ last[s.1]? = some (some c)
def DJ (HB : Hp) (D : Addr) (sts : List Stg) (A : Stg → Nat → Prop) (H' : Hp) : Prop := ∃ kvs, Fe HB H' ∧ H' D = some (.dT kvs) ∧ KeyD sts kvs ∧ RelD kvs A
theorem DJ.fe {HB H' H2 : Hp} {D : Addr} {sts : List Stg} {A : Stg → Nat → Prop} (d : DJ HB D sts A H') (f : Fe H' H2) : DJ HB D sts A H2 := by
  obtain ⟨kvs, a, b, c, e⟩ := d
  exact ⟨kvs, a.trans f, f.k b, c, e⟩
theorem DJ.congr {HB H' : Hp} {D : Addr} {sts : List Stg} {A B : Stg → Nat → Prop} (d : DJ HB D sts A H') (h : ∀ s c, A s c ↔ B s c) : DJ HB D sts B H' := by
  obtain ⟨kvs, a, b, c, e⟩ := d
  exact ⟨kvs, a, b, c, e.congr h⟩
theorem DJ.ex {HB H' : Hp} {D : Addr} {sts : List Stg} {A : Stg → Nat → Prop} (d : DJ HB D sts A H') : Fe HB H' := d.elim fun _ h => h.1
theorem RelD.set {kvs : List (List Key × V)} {A A' : Stg → Nat → Prop} (R : RelD kvs A) {s : Stg} {o : Option Nat} (h : ∀ s', s' ≠ s → ∀ c, A s' c ↔ A' s' c) (L : Least (A' s) o) : RelD (putK kvs (kSt s) (oV o)) A' := by
  intro s'
  by_cases q : s' = s
  · subst q
    exact ⟨o, .inr (by rw [valV_put, if_pos rfl]), L⟩
  · obtain ⟨o', h1, h2⟩ := R s'
    refine ⟨o', ?_, h2.congr (h s' q)⟩
    rw [valV_put, if_neg (fun z => q (kSt_inj z))]
    exact h1
theorem due_least {b : Book} {m : Mach} (bok : BOk b) {t : List Nat} {ops : List Op} {rows : List CRow} {last : CRow} (oo : OpsOk b m ops) (mok : MOk m) (hl2 : rows.length = t.length + 1) (hrows : ∀ (k : Nat) (row : CRow), rows[k]? = some row → LRow m.1 (Wh b m t 0 k) row) (hlast : rows[t.length]? = some last) {k : Nat} (hk : t.length - 2 + k = t.length)
    {s : Stg} {o : Option Nat} (h : Least (fun c => Cd0 last m.1 s c ∨ Cd1 t rows ops m.1 k s c) o) : Least (Due b m t s) o := by
  have hs := least_same (A := fun c => Cd0 last m.1 s c ∨ Cd1 t rows ops m.1 k s c) (B := Due b m t s) (fun c hc => ?_) (fun c hc => ?_)
  · rw [h.eq, hs]; exact least_is _
  · refine ⟨c, ?_, Nat.le_refl _⟩
    rcases hc with ⟨h1, h2, h3⟩ | ⟨pl, p1, p2, i', op, _, hop, ⟨z1, z2⟩, row, q, c0, tr, p, hrow, hq, hc0, htr, hp, rfl, rfl⟩
    · exact .inl ⟨h1, (hrows _ _ hlast).snd _ _ h3⟩
    · refine .inr ⟨pl, q, c0, op.1, op.2.2.1, p1, by omega, ?_, ?_, (hrows _ _ hrow).snd _ _ hc0, oo.to hop htr hp, rfl⟩
      · show op.1.drop (t.length - pl) ≠ []
        rw [Ne, List.drop_eq_nil_iff]; omega
      · show op.1 = t.drop pl ++ op.1.drop (t.length - pl)
        rw [← z2, List.take_append_drop]
  · rcases hc with ⟨h1, h2⟩ | ⟨pl, q, c0, r0, d, p1, p2, h3, rfl, h5, h6, rfl⟩
    · obtain ⟨c', h3, h4⟩ := (hrows _ _ hlast).low _ _ h2
      exact ⟨c', .inl ⟨h1, wh_lt mok h2, h3⟩, h4⟩
    · have hq := wh_lt mok h5
      obtain ⟨row, hrow⟩ : ∃ row, rows[pl]? = some row := ⟨_, List.getElem?_eq_getElem (by omega)⟩
      obtain ⟨c', h7, h8⟩ := (hrows _ _ hrow).low _ _ h5
      obtain ⟨i, op, tr, o1, o2, o3, o4, o5⟩ := oo.from_ hq h6
      have hil := (List.getElem?_eq_some_iff.mp o1).1
      have hdl : (t.drop pl).length = t.length - pl := List.length_drop
      have hs2 := List.length_pos_iff.mpr h3
      refine ⟨c' + op.2.2.1, .inr ⟨pl, p1, by omega, i, op, hil, o1, ⟨?_, ?_⟩, row, q, c', tr, s.1, hrow, hq, h7, o4, o5, ?_, rfl⟩, by omega⟩
      · rw [o2, List.length_append, hdl]; omega
      · rw [o2, ← hdl, List.take_left]
      · rw [o2, ← hdl, List.drop_left]
section
variable {P : Program} {w : World} {K : PySem.W.Frag} {g : Str → Option Value} {base : Heap}
def spDueRow : Sp := fun vs H Q _ => ∃ (b : Book) (m : Mach) (t : List Nat) (v1 v2 : V) (sa : Addr) (svs : List V) (rs : List (List Nat)), vs = [v1, v2, .str ⟨t.toArray⟩, .ref sa] ∧ rBook H v1 b ∧ rMach H v2 m ∧ POk b m ∧ m.2.2.length < 60 ∧ t.length ≤ 100000 ∧ H sa = some (.lst svs) ∧ RsOf b rs ∧ Al (rP rN rS) H svs (stsOf m.1 rs) ∧
  ∀ (T : Addr) (row : CRow) (H' : Hp), Fe H H' → H' T = some (.tup (row.map oV)) → LRow (stsOf m.1 rs).length (fun h c => ∃ s, (stsOf m.1 rs)[h]? = some s ∧ Rs b m t s c) row → Q (.ref T) H'
theorem ok_law_due_row (T : Txt K g) : FnOk P w K g base CX0 2 T.d_law_due_row.f T.d_law_due_row.fd P_law_due_row spDueRow := by
  refine T.d_law_due_row.F.ok sc_law_due_row (fun vs H Q E h => ?_) (fun cdv A outer s H vs Q E hr h => ?_)
  · obtain ⟨_, _, _, _, _, _, _, _, rfl, _⟩ := h
    rfl
  · obtain ⟨b, m, t, v1, v2, sa, svs, rs, rfl, hb, hm, pok, hm60, ht, hsa, hrs, hsv, kk⟩ := h
    have hu := hu_of hr
    refine ⟨_, (pss_cons (ps_set (i := 4) sc_law_due_row.nd rfl (by first | exact Or.inl rfl | exact Or.inr rfl) (pe_call (ok_law_ops T) (hr.mono (by decide)) rfl T.d_law_ops.mg T.d_law_ops.kp T.d_law_ops.b .nil pass0 (pa_cons (pv 0) (pa_cons (pv 1) pa_nil))))
    (pss_cons (ps_set (i := 5) sc_law_due_row.nd rfl (by first | exact Or.inl rfl | exact Or.inr rfl) (pe_call (ok_law_ahead T) (hr.mono (by decide)) rfl T.d_law_ahead.mg T.d_law_ahead.kp T.d_law_ahead.b .nil pass0 (pa_cons (pv 4) (pa_cons (pe_ix (kx_tup (K := K) rfl) (pv 1) pe_int (fun _ _ => rfl)) (pa_cons (pv 2) (pa_cons pe_int pa_nil))))))
    (pss_cons (ps_set (i := 6) sc_law_due_row.nd rfl (by first | exact Or.inl rfl | exact Or.inr rfl) pe_dnewT)
    (pss_cons (ps_for PassesOwn.never rfl (pi_range1 rfl T.z_range (pa_cons (pe_ix (kx_tup (K := K) rfl) (pv 1) pe_int (fun _ _ => rfl)) pa_nil)) (pg_name (i := 7) sc_law_due_row.nd rfl (by first | exact Or.inl rfl | exact Or.inr rfl))
      (pss_one (ps_dput hu (pv 6) (pe_tup (pa_cons (pv 7) (pa_cons pe_str pa_nil))) (pe_ix (kx_list (K := K) rfl) (pe_ix (kx_list (K := K) rfl) (pv 5) (pe_un un_neg pe_int) (fun _ _ => rfl)) (pv 7) (fun _ _ => rfl)) rfl)))
    (pss_cons (ps_for PassesOwn.never rfl (pi_range2 rfl T.z_range (pa_cons (pe_callB (call_max2 rfl) (by rfl) T.z_max (by decide +kernel) (pa_cons pe_int (pa_cons (pe_op op_sub (pe_callB kc_lenS (by rfl) T.z_len PySem.boot_len (pa_cons (pv 2) pa_nil)) pe_int) pa_nil))) (pa_cons (pe_callB kc_lenS (by rfl) T.z_len PySem.boot_len (pa_cons (pv 2) pa_nil)) pa_nil))) (pg_name (i := 8) sc_law_due_row.nd rfl (by first | exact Or.inl rfl | exact Or.inr rfl))
      (pss_cons (ps_set (i := 9) sc_law_due_row.nd rfl (by first | exact Or.inl rfl | exact Or.inr rfl) (pe_slice sl_str (pv 2) (po_some (pv 8)) po_none))
      (pss_one (ps_for PassesOwn.never rfl (ki_list (K := K) rfl (pv 4)) (kg_tup (K := K) 4 rfl rfl (pgs_cons (pg_name (i := 10) sc_law_due_row.nd rfl (by first | exact Or.inl rfl | exact Or.inr rfl)) (pgs_cons (pg_name (i := 11) sc_law_due_row.nd rfl (by first | exact Or.inl rfl | exact Or.inr rfl)) (pgs_cons (pg_name (i := 12) sc_law_due_row.nd rfl (by first | exact Or.inl rfl | exact Or.inr rfl)) (pgs_cons (pg_name (i := 13) sc_law_due_row.nd rfl (by first | exact Or.inl rfl | exact Or.inr rfl)) pgs_nil)))))
        (pss_one (ps_if (PW.pt (pw_and (pt_cmpR op_gt (pe_callB kc_lenS (by rfl) T.z_len PySem.boot_len (pa_cons (pv 10) pa_nil)) (pe_callB kc_lenS (by rfl) T.z_len PySem.boot_len (pa_cons (pv 9) pa_nil)) (nomark _)) (pw_and1 (pt_cmpR op_eq (pe_slice sl_str (pv 10) po_none (po_some (pe_callB kc_lenS (by rfl) T.z_len PySem.boot_len (pa_cons (pv 9) pa_nil)))) (pv 9) (nomark _)))))
          (pss_one (ps_for PassesOwn.never rfl (pi_range1 rfl T.z_range (pa_cons (pe_ix (kx_tup (K := K) rfl) (pv 1) pe_int (fun _ _ => rfl)) pa_nil)) (pg_name (i := 7) sc_law_due_row.nd rfl (by first | exact Or.inl rfl | exact Or.inr rfl))
            (pss_one (ps_if (pt_cmpR op_notN (pe_ix (kx_list (K := K) rfl) (pe_ix (kx_list (K := K) rfl) (pv 5) (pv 8) (fun _ _ => rfl)) (pv 7) (fun _ _ => rfl)) pe_non (nomark _))
              (pss_one (ps_for PassesOwn.never rfl (ki_list (K := K) rfl (pe_ix (kx_list (K := K) rfl) (pv 13) (pv 7) (fun _ _ => rfl))) (pg_name (i := 14) sc_law_due_row.nd rfl (by first | exact Or.inl rfl | exact Or.inr rfl))
                (pss_cons (ps_set (i := 15) sc_law_due_row.nd rfl (by first | exact Or.inl rfl | exact Or.inr rfl) (pe_tup (pa_cons (pv 14) (pa_cons (pe_slice sl_str (pv 10) (po_some (pe_callB kc_lenS (by rfl) T.z_len PySem.boot_len (pa_cons (pv 9) pa_nil))) po_none) pa_nil))))
                (pss_one (ps_if (PW.pt (pw_or (pt_cmpR op_isN (pe_dget1 hu (pv 6) (pv 15) (by constructor <;> rfl)) pe_non (nomark _)) (pw_or1 (pt_cmpR op_gt (pe_dget hu (pv 6) (pv 15) (fun _ _ => rfl)) (pe_op op_add (pe_ix (kx_list (K := K) rfl) (pe_ix (kx_list (K := K) rfl) (pv 5) (pv 8) (fun _ _ => rfl)) (pv 7) (fun _ _ => rfl)) (pv 12)) (nomark _)))))
                  (pss_one (ps_dput hu (pv 6) (pv 15) (pe_op op_add (pe_ix (kx_list (K := K) rfl) (pe_ix (kx_list (K := K) rfl) (pv 5) (pv 8) (fun _ _ => rfl)) (pv 7) (fun _ _ => rfl)) (pv 12)) rfl))
                  pss_nil)))))
              pss_nil))))
          pss_nil))))))
    (pss_one (ps_ret (pe_callTy (kc_tuple (K := K) rfl) (by rfl) T.z_tuple (by decide +kernel) (pa_cons (pe_lc (own := [("standing", 16)]) rfl sc_law_due_row.nd (ki_list (K := K) rfl (pv 3)) (blkOk_by (N := N_law_due_row) (sc := defScope s_law_due_row) (by decide +kernel)) (fun _ _ _ _ _ => by exact (pg_name (i := 16) sc_law_due_row.nd rfl (by first | exact Or.inl rfl | exact Or.inr rfl))) (fun _ _ _ _ _ => by exact pts_nil) (fun _ _ _ _ _ => by exact (pe_dget1 hu (pv 6) (pv 16) (by constructor <;> rfl)))) pa_nil))))))))), ?_⟩
    have mok := pok.mo
    obtain ⟨ma, vst, ven, vsp, rfl, hma, rfl, hen, hsp⟩ := id hm
    refine ⟨_, rfl, _, rfl, b, m, v1, .ref ma, rfl, hb, hm, pok, by omega, fun vo ops H1 e1 hops oo => ?_⟩
    have hal200 : (alle b).length ≤ 200 := by
      have h1 := pok.bk.few
      have h2 := pok.bk.fewL
      unfold alle; rw [List.length_append, List.length_map]; omega
    have short3 : ∀ op ∈ ops, op.1.length ≤ 3 := fun op hop => by
      obtain ⟨i, hi⟩ := List.mem_iff_getElem?.mp hop
      have h1 := List.mem_of_getElem? (oo.ok i op hi).1
      unfold alle at h1
      rcases List.mem_append.mp h1 with h1 | h1
      · exact pok.bk.len _ h1
      · obtain ⟨x, _, e⟩ := List.mem_map.mp h1
        have : op.1 = [x] := (congrArg (fun z : List Nat × List Nat × Nat => z.1) e).symm
        rw [this]; show 1 ≤ 3; omega
    have short : ∀ op ∈ ops, op.1.length ≤ 1000 := fun op hop => Nat.le_trans (short3 op hop) (by omega)
    refine ⟨_, rfl, _, rfl, ma, _, _, _, rfl, rfl, SqT.of (e1.k hma), atI_nat (j := 0) rfl, _, rfl, b, m, ops, t, 0, vo, rfl, hops, oo, short, mok, pok.few, Nat.zero_le _, by omega, fun R H2 qs rows e2 M2 hl2 hrows => ?_⟩
    obtain ⟨oa, oxs, rfl, hoa, hol⟩ := id hops
    have e02 := e1.trans e2
    have hqsl : qs.length = t.length + 1 := by rw [M2.len]; exact hl2
    obtain ⟨last, hlast⟩ : ∃ last, rows[t.length]? = some last := ⟨_, List.getElem?_eq_getElem (by omega)⟩
    obtain ⟨qL, xsL, hqL, hqLm, hxL, haL⟩ := M2.get hlast
    have hxoL := haL.opts
    subst hxoL
    have hLl := (hrows _ _ hlast).len
    have hoa2 := e2.k hoa
    have hma2 := e02.k hma
    have hsa2 := e02.k hsa
    have hsv2 : Al (rP rN rS) H2 svs (stsOf m.1 rs) := Al.mo e02 hsv
    have hst4 : (stsOf m.1 rs).length ≤ 3660 := by
      rw [stsOf_len]
      have h1 := pok.e30 rs hrs.nd fun r hr => (hrs.mem r).mp hr
      have h2 := pok.few
      have := Nat.mul_le_mul h2 h1
      omega
    have hst61 : (stsOf m.1 rs).length < sizeLine := by
      rw [sizeLine_eq]; omega
    have inst : ∀ (p : Nat) (r : List Nat), p < m.1 → Rest b r → (p, r) ∈ stsOf m.1 rs := fun p r h1 h2 => stsOf_mem.mpr ⟨h1, (hrs.mem r).mpr h2⟩
    intro D hD
    have gD : Fe H2 (upd H2 D (.dT [])) := Fe.new hD
    have d0 : DJ H2 D (stsOf m.1 rs) (Cd0 last 0) (upd H2 D (.dT [])) := ⟨[], gD, upd_same, ⟨List.nodup_nil, fun _ h => nomatch h⟩, fun s => ⟨none, .inl ⟨rfl, rfl⟩, fun c h => absurd h.2.1 (Nat.not_lt_zero _)⟩⟩
    generalize upd H2 D (.dT []) = H3 at gD d0 ⊢
    refine ⟨_, rfl, ma, _, _, _, rfl, rfl, SqT.of (gD.k hma2), atI_nat (j := 0) rfl, _, rfl, by have := pok.few; omega, by have := pok.few; omega, ?_⟩
    have hcm : (m.1 : Int).toNat = m.1 := by omega
    rw [hcm]
    refine for_range (lo := 0) (n := m.1) (fun i σ' H' => ∃ o7 : Option V, σ' = [some v1, some (.ref ma), some (.str ⟨t.toArray⟩), some (.ref sa), some (.ref oa), some (.ref R), some (.ref D), o7, none, none, none, none, none, none, none, none, none] ∧ DJ H2 D (stsOf m.1 rs) (Cd0 last i) H') ⟨_, rfl, d0⟩ ?_ ?_
    · rintro i σ' H' hi ⟨o7, rfl, d⟩
      obtain ⟨kvs, f, hDv, hK, hR⟩ := d
      have M4 := M2.fe f
      obtain ⟨oc, hoc⟩ : ∃ oc, last[i]? = some oc := ⟨_, List.getElem?_eq_getElem (by rw [hLl]; exact hi)⟩
      refine ⟨_, rfl, _, rfl, R, _, _, .ref qL, rfl, rfl, SqL.of M4.at_, atI_last (by rw [List.length_map, List.getElem?_map, hqsl, Nat.add_sub_cancel, hqL]; rfl), _, rfl, qL, _, _, _, rfl, rfl, SqL.of (f.k hxL), by rw [Int.zero_add]; exact atI_nat (at_oV hoc), ?_⟩
      refine ⟨_, rfl, _, rfl, by show 2 ≤ sizeLine; decide, fun U hU => ?_⟩
      have gU := Fe.new (o := .tup [.int (0 + (i : Int)), .str (Str.ofString "")]) hU
      have hst : ((i, []) : Stg) ∈ stsOf m.1 rs := inst i [] hi (.inl rfl)
      refine ⟨D, _, rfl, DPut.t (k := kSt (i, [])) (gU.k hDv) (by rw [upd_same, Int.zero_add]; rfl) (Nat.lt_of_le_of_lt hK.len hst61), _, rfl, _, (f.trans gU).mut hD, upd_same, hK.put hst _, hR.set (fun s' hs' c => ?_) ?_⟩
      · refine ⟨fun ⟨a1, a2, a3⟩ => ⟨a1, by omega, a3⟩, fun ⟨a1, a2, a3⟩ => ⟨a1, ?_, a3⟩⟩
        have : s'.1 ≠ i := fun z => hs' (Prod.ext z a1)
        omega
      · cases oc with
        | none => exact fun c ⟨_, _, a3⟩ => by rw [show ((i, []) : Stg).1 = i from rfl, hoc] at a3; cases a3
        | some c0 => exact ⟨⟨rfl, Nat.lt_succ_self i, hoc⟩, fun c ⟨_, _, a3⟩ => by rw [show ((i, []) : Stg).1 = i from rfl, hoc] at a3; cases a3; exact Nat.le_refl _⟩
    · clear d0 gD
      rintro σ' H' ⟨o7, rfl, d⟩
      refine ⟨_, rfl, _, rfl, by rw [slen, sizeLine_eq]; omega, _, _, rfl, rfl, _, _, rfl, _, rfl, _, rfl, by rw [slen, sizeLine_eq]; omega, ?_⟩
      have hlo : (if ((⟨t.toArray⟩ : Str).length : Int) - 2 > 0 then ((⟨t.toArray⟩ : Str).length : Int) - 2 else 0) = ((t.length - 2 : Nat) : Int) := by
        rw [slen]
        split <;> omega
      refine ⟨_, _, rfl, by rw [hlo, slen]; omega, ?_⟩
      rw [hlo, slen]
      have hcn : ((t.length : Int) - ((t.length - 2 : Nat) : Int)).toNat = t.length - (t.length - 2) := by omega
      rw [hcn]
      refine for_range (lo := ((t.length - 2 : Nat) : Int)) (n := t.length - (t.length - 2)) (fun k σ' H' => ∃ o7 o8 o9 o10 o11 o12 o13 o14 o15 : Option V, σ' = [some v1, some (.ref ma), some (.str ⟨t.toArray⟩), some (.ref sa), some (.ref oa), some (.ref R), some (.ref D), o7, o8, o9, o10, o11, o12, o13, o14, o15, none] ∧ DJ H2 D (stsOf m.1 rs) (fun s c => Cd0 last m.1 s c ∨ Cd1 t rows ops m.1 k s c) H') ⟨_, _, _, _, _, _, _, _, _, rfl, d.congr fun s c => ⟨.inl, fun h => h.elim id fun ⟨pl, a1, a2, _⟩ => by omega⟩⟩ ?_ ?_
      · clear d
        rintro k σ' H' hk ⟨o7, o8, o9, o10, o11, o12, o13, o14, o15, rfl, d⟩
        obtain ⟨pl, hpl⟩ : ∃ pl, pl = t.length - 2 + k := ⟨_, rfl⟩
        have hpi : ((t.length - 2 : Nat) : Int) + (k : Int) = (pl : Int) := by omega
        have hpt : pl < t.length := by omega
        rw [hpi]
        have hcut : cutS ⟨t.toArray⟩ (some (pl : Int)) none = ⟨(t.drop pl).toArray⟩ := cut_from t pl
        have hdl : (t.drop pl).length = t.length - pl := List.length_drop
        refine ⟨_, rfl, _, rfl, _, rfl, _, rfl, by rw [slen, sizeLine_eq]; omega, ?_⟩
        rw [hcut]
        refine ⟨_, rfl, oa, rfl, ⟨_, SqL.of (d.ex.k hoa2)⟩, for_lst (xs := oxs) (fun i σ' H' => ∃ o7 o10 o11 o12 o13 o14 o15 : Option V, σ' = [some v1, some (.ref ma), some (.str ⟨t.toArray⟩), some (.ref sa), some (.ref oa), some (.ref R), some (.ref D), o7, some (.int (pl : Int)), some (.str ⟨(t.drop pl).toArray⟩), o10, o11, o12, o13, o14, o15, none] ∧
          DJ H2 D (stsOf m.1 rs) (fun s c => Cd0 last m.1 s c ∨ Cd1 t rows ops m.1 k s c ∨ Cd2 t rows ops m.1 pl i s c) H') ⟨_, _, _, _, _, _, _, rfl, d.congr fun s c => ⟨fun h => h.imp id .inl, fun h => h.imp id fun h => h.elim id fun ⟨i', op, a1, _⟩ => by omega⟩⟩ (fun i σ' H' _ ⟨_, _, _, _, _, _, _, _, d⟩ => d.ex.k hoa2) ?_ ?_⟩
        · clear d
          rintro j xv σ' H' hx ⟨o7, o10, o11, o12, o13, o14, o15, rfl, d⟩
          obtain ⟨op, hop, hxr0⟩ := hol.get hx
          have hjl := (List.getElem?_eq_some_iff.mp hop).1
          obtain ⟨ua, x1, x2, x3, x4, rfl, hua, rfl, rfl, rfl, htab⟩ := id hxr0
          obtain ⟨ta, txs, rfl, hta, htal⟩ := id (show rL (rL rN) H1 x4 op.2.2.2 from htab)
          have hua2 := e2.k hua
          have hsh := short3 op (List.mem_of_getElem? hop)
          refine ⟨ua, _, rfl, SqT.of (d.ex.k hua2), rfl, _, _, rfl, _, _, rfl, _, _, rfl, _, _, rfl, rfl, ?_⟩
          have nhit : ¬ hitD t pl op → ∀ {H'}, DJ H2 D (stsOf m.1 rs) (fun s c => Cd0 last m.1 s c ∨ Cd1 t rows ops m.1 k s c ∨ Cd2 t rows ops m.1 pl j s c) H' → DJ H2 D (stsOf m.1 rs) (fun s c => Cd0 last m.1 s c ∨ Cd1 t rows ops m.1 k s c ∨ Cd2 t rows ops m.1 pl (j + 1) s c) H' := fun hn H' d => d.congr fun s c => by
            refine or_congr Iff.rfl (or_congr Iff.rfl ⟨fun ⟨i', op', a1, a2⟩ => ⟨i', op', by omega, a2⟩, fun ⟨i', op', a1, a2, a3, a4⟩ => ⟨i', op', ?_, a2, a3, a4⟩⟩)
            rcases (by omega : i' < j ∨ i' = j) with z | rfl
            · exact z
            · rw [hop] at a2; cases a2; exact absurd a3 hn
          refine ⟨_, rfl, _, rfl, by rw [slen, sizeLine_eq]; omega, _, rfl, _, rfl, by rw [slen, sizeLine_eq]; omega, _, _, rfl, rfl, _, rfl, ?_⟩
          by_cases hlt : t.length - pl < op.1.length
          · rw [decide_eq_true (by rw [slen, slen, hdl]; omega)]
            refine iteT ⟨_, rfl, _, rfl, _, rfl, by rw [slen, sizeLine_eq]; omega, _, rfl, _, rfl, by rw [slen, sizeLine_eq]; omega, _, rfl, rfl, _, rfl, ?_⟩
            have ecut2 : cutS ⟨op.1.toArray⟩ none (some ((((⟨(t.drop pl).toArray⟩ : Str).length : Nat) : Int))) = ⟨(op.1.take (t.length - pl)).toArray⟩ := by rw [slen, hdl]; exact cut_to op.1 _ (by omega)
            rw [ecut2]
            by_cases hmt : op.1.take (t.length - pl) = t.drop pl
            · rw [decide_eq_true (by rw [hmt])]
              refine iteT ?_
              refine ⟨_, rfl, ma, _, _, _, rfl, rfl, SqT.of (d.ex.k hma2), atI_nat (j := 0) rfl, _, rfl, by have := pok.few; omega, by have := pok.few; omega, ?_⟩
              rw [hcm]
              refine for_range (lo := 0) (n := m.1) (fun q σ' H' => ∃ o7 o14 o15 : Option V, σ' = [some v1, some (.ref ma), some (.str ⟨t.toArray⟩), some (.ref sa), some (.ref oa), some (.ref R), some (.ref D), o7, some (.int (pl : Int)), some (.str ⟨(t.drop pl).toArray⟩), some (.str ⟨op.1.toArray⟩), some (.str ⟨op.2.1.toArray⟩), some (vN op.2.2.1), some (.ref ta), o14, o15, none] ∧
                DJ H2 D (stsOf m.1 rs) (fun s c => Cd0 last m.1 s c ∨ Cd1 t rows ops m.1 k s c ∨ Cd2 t rows ops m.1 pl j s c ∨ Cd3 t rows op pl q s c) H') ⟨_, _, _, rfl, d.congr fun s c => or_congr Iff.rfl (or_congr Iff.rfl ⟨.inl, fun h => h.elim id fun ⟨_, _, _, _, _, _, a1, _⟩ => by omega⟩)⟩ ?_ ?_
              · clear d
                rintro q σ' H' hq ⟨o7, o14, o15, rfl, d⟩
                obtain ⟨rowi, hrowi⟩ : ∃ row, rows[pl]? = some row := ⟨_, List.getElem?_eq_getElem (by omega)⟩
                obtain ⟨qi, xsi, hqi, hqim, hxi, hai⟩ := M2.get hrowi
                have hxoi := hai.opts
                subst hxoi
                have hli := (hrows _ _ hrowi).len
                obtain ⟨oc, hoc⟩ : ∃ oc, rowi[q]? = some oc := ⟨_, List.getElem?_eq_getElem (by rw [hli]; exact hq)⟩
                have rd1 : ∀ {H'}, Fe H2 H' → atI (qs.map V.ref) (pl : Int) = some (.ref qi) := fun _ => atI_nat (by rw [List.getElem?_map, hqi]; rfl)
                refine ⟨_, rfl, _, rfl, R, _, _, .ref qi, rfl, rfl, SqL.of (d.ex.k M2.at_), rd1 d.ex, _, rfl, qi, _, _, _, rfl, rfl, SqL.of (d.ex.k hxi), by rw [Int.zero_add]; exact atI_nat (at_oV hoc), rfl, _, rfl, ?_⟩
                cases oc with
                | none =>
                  refine iteF ⟨_, _, _, rfl, d.congr fun s c => or_congr Iff.rfl (or_congr Iff.rfl (or_congr Iff.rfl ⟨fun ⟨row, q', c0, tr, p, a1, a2, a3⟩ => ⟨row, q', c0, tr, p, a1, by omega, a3⟩, fun ⟨row, q', c0, tr, p, a1, a2, a3, a4⟩ => ⟨row, q', c0, tr, p, a1, ?_, a3, a4⟩⟩))⟩
                  rcases (by omega : q' < q ∨ q' = q) with z | rfl
                  · exact z
                  · rw [hrowi] at a1; cases a1
                    rw [hoc] at a3; cases a3
                | some c0 =>
                  obtain ⟨trow, htrow⟩ := oo.row hop hq
                  obtain ⟨tv, htv, htr⟩ := htal.at htrow
                  obtain ⟨tra, trx, rfl, htra, htral⟩ := id htr
                  have htn := htral.nats
                  subst htn
                  refine iteT ⟨_, rfl, _, rfl, ta, _, _, .ref tra, rfl, rfl, SqL.of (d.ex.k (e2.k hta)), by rw [Int.zero_add]; exact atI_nat htv, tra, rfl, ⟨_, SqL.of (d.ex.k (e2.k htra))⟩, ?_⟩
                  refine for_lst (xs := trow.map vN) (fun l σ' H' => ∃ o14 o15 : Option V, σ' = [some v1, some (.ref ma), some (.str ⟨t.toArray⟩), some (.ref sa), some (.ref oa), some (.ref R), some (.ref D), some (.int (0 + (q : Int))), some (.int (pl : Int)), some (.str ⟨(t.drop pl).toArray⟩), some (.str ⟨op.1.toArray⟩), some (.str ⟨op.2.1.toArray⟩), some (vN op.2.2.1), some (.ref ta), o14, o15, none] ∧
                    DJ H2 D (stsOf m.1 rs) (fun s c => (Cd0 last m.1 s c ∨ Cd1 t rows ops m.1 k s c ∨ Cd2 t rows ops m.1 pl j s c ∨ Cd3 t rows op pl q s c) ∨ ∃ p, p ∈ trow.take l ∧ s = (p, op.1.drop (t.length - pl)) ∧ c = c0 + op.2.2.1) H') ⟨_, _, rfl, d.congr fun s c => ⟨.inl, fun h => h.elim id fun ⟨_, a1, _⟩ => (nomatch a1)⟩⟩ (fun l σ' H' _ ⟨_, _, _, d⟩ => d.ex.k (e2.k htra)) ?_ ?_
                  · clear d
                    rintro l xv σ' H' hx ⟨o14, o15, rfl, d⟩
                    rw [List.getElem?_map] at hx
                    obtain ⟨p, hp, rfl⟩ : ∃ p, trow[l]? = some p ∧ xv = vN p := by
                      cases z : trow[l]? with
                      | none => rw [z] at hx; cases hx
                      | some p => rw [z] at hx; exact ⟨p, rfl, (Option.some.inj hx).symm⟩
                    have hpl2 : trow.take (l + 1) = trow.take l ++ [p] := by rw [List.take_add_one, hp]; rfl
                    have cl : ∀ s c, ((Cd0 last m.1 s c ∨ Cd1 t rows ops m.1 k s c ∨ Cd2 t rows ops m.1 pl j s c ∨ Cd3 t rows op pl q s c) ∨ ∃ p, p ∈ trow.take l ∧ s = (p, op.1.drop (t.length - pl)) ∧ c = c0 + op.2.2.1) ∨ (s = (p, op.1.drop (t.length - pl)) ∧ c = c0 + op.2.2.1) ↔ (Cd0 last m.1 s c ∨ Cd1 t rows ops m.1 k s c ∨ Cd2 t rows ops m.1 pl j s c ∨ Cd3 t rows op pl q s c) ∨ ∃ p, p ∈ trow.take (l + 1) ∧ s = (p, op.1.drop (t.length - pl)) ∧ c = c0 + op.2.2.1 := fun s c => by
                      rw [hpl2]
                      constructor
                      · rintro ((h | ⟨p', a1, a2⟩) | h)
                        · exact .inl h
                        · exact .inr ⟨p', List.mem_append_left _ a1, a2⟩
                        · exact .inr ⟨p, List.mem_append_right _ List.mem_cons_self, h⟩
                      · rintro (h | ⟨p', a1, a2⟩)
                        · exact .inl (.inl h)
                        · rcases List.mem_append.mp a1 with a1 | a1
                          · exact .inl (.inr ⟨p', a1, a2⟩)
                          · rw [List.mem_singleton.mp a1] at a2; exact .inr a2
                    refine ⟨_, rfl, _, rfl, _, rfl, _, rfl, by rw [slen, sizeLine_eq]; omega, _, rfl, _, rfl, by rw [slen, sizeLine_eq]; omega, by show 2 ≤ sizeLine; decide, fun U hU => ?_⟩
                    have ecut3 : cutS ⟨op.1.toArray⟩ (some ((((⟨(t.drop pl).toArray⟩ : Str).length : Nat) : Int))) none = ⟨(op.1.drop (t.length - pl)).toArray⟩ := by rw [slen, hdl]; exact cut_from op.1 _
                    rw [ecut3] at *
                    have gU := Fe.new (o := .tup [vN p, .str ⟨(op.1.drop (t.length - pl)).toArray⟩]) hU
                    have d2 := d.fe gU
                    have hUv : (upd H' U (.tup [vN p, .str ⟨(op.1.drop (t.length - pl)).toArray⟩])) U = some (.tup ((kSt (p, op.1.drop (t.length - pl))).map kV)) := upd_same
                    generalize upd H' U (.tup [vN p, .str ⟨(op.1.drop (t.length - pl)).toArray⟩]) = H4 at gU d2 hUv ⊢
                    obtain ⟨kvs, f, hDv, hK, hR⟩ := d2
                    obtain ⟨o, hv, hL⟩ := hR (p, op.1.drop (t.length - pl))
                    have hpm : p ∈ trow := List.mem_of_getElem? hp
                    have hrest : Rest b (op.1.drop (t.length - pl)) := by
                      have h1 := List.mem_of_getElem? (oo.ok j op hop).1
                      unfold alle at h1
                      rcases List.mem_append.mp h1 with h1 | h1
                      · exact rest_drop h1 (by omega)
                      · obtain ⟨x, _, e⟩ := List.mem_map.mp h1
                        have : op.1 = [x] := (congrArg (fun z : List Nat × List Nat × Nat => z.1) e).symm
                        rw [this] at hlt
                        have : ([x] : List Nat).length = 1 := rfl
                        omega
                    have hst : (p, op.1.drop (t.length - pl)) ∈ stsOf m.1 rs := inst _ _ (ops_lt mok hq (oo.to hop htrow hpm)) hrest
                    have fin1 : Bet o (c0 + op.2.2.1) → ∃ o14 o15 : Option V, [some v1, some (.ref ma), some (.str ⟨t.toArray⟩), some (.ref sa), some (.ref oa), some (.ref R), some (.ref D), some (.int (0 + (q : Int))), some (.int (pl : Int)), some (.str ⟨(t.drop pl).toArray⟩), some (.str ⟨op.1.toArray⟩), some (.str ⟨op.2.1.toArray⟩), some (vN op.2.2.1), some (.ref ta), some (vN p), some (.ref U), none] = [some v1, some (.ref ma), some (.str ⟨t.toArray⟩), some (.ref sa), some (.ref oa), some (.ref R), some (.ref D), some (.int (0 + (q : Int))), some (.int (pl : Int)), some (.str ⟨(t.drop pl).toArray⟩), some (.str ⟨op.1.toArray⟩), some (.str ⟨op.2.1.toArray⟩), some (vN op.2.2.1), some (.ref ta), o14, o15, none] ∧
                        DJ H2 D (stsOf m.1 rs) (fun s c => (Cd0 last m.1 s c ∨ Cd1 t rows ops m.1 k s c ∨ Cd2 t rows ops m.1 pl j s c ∨ Cd3 t rows op pl q s c) ∨ ∃ p, p ∈ trow.take (l + 1) ∧ s = (p, op.1.drop (t.length - pl)) ∧ c = c0 + op.2.2.1) (upd H4 D (.dT (putK kvs (kSt (p, op.1.drop (t.length - pl))) (vN (c0 + op.2.2.1))))) := fun hb => by
                      refine ⟨_, _, rfl, DJ.congr ⟨_, f.mut hD, upd_same, hK.put hst _, hR.put hv hL hb⟩ cl⟩
                    have hlen : kvs.length < sizeLine := Nat.lt_of_le_of_lt hK.len hst61
                    have again : ∀ (hb : Bet o (c0 + op.2.2.1)) (hv0 : o = none), ∃ v, DGet H4 D (.ref U) v ∧ v.getD V.non = V.non := fun _ hv0 => by
                      refine ⟨_, DGet.t hDv hUv, ?_⟩
                      rcases hv with ⟨h1, _⟩ | h1
                      · rw [h1]; rfl
                      · rw [h1, hv0]; rfl
                    cases o with
                    | none =>
                      have hgo : (valV kvs (kSt (p, op.1.drop (t.length - pl)))).getD V.non = V.non := by
                        rcases hv with ⟨h1, _⟩ | h1
                        · rw [h1]; rfl
                        · rw [h1]; rfl
                      refine ⟨_, rfl, D, rfl, .inr ⟨kvs, .inl hDv⟩, _, rfl, _, DGet.t hDv hUv, rfl, _, rfl, ?_⟩
                      rw [hgo]
                      refine iteT (iteT ?_)
                      refine ⟨_, rfl, _, rfl, R, _, _, .ref qi, rfl, rfl, SqL.of (f.k M2.at_), rd1 f, _, rfl, qi, _, _, _, rfl, rfl, SqL.of (f.k hxi), by rw [Int.zero_add]; exact atI_nat (at_oV hoc), _, rfl, _, _, rfl, rfl, _, rfl, _, rfl, D, _, rfl, DPut.t (k := kSt (p, op.1.drop (t.length - pl))) hDv hUv hlen, ?_⟩
                      exact fin1 bet_none
                    | some e =>
                      have hv2 : valV kvs (kSt (p, op.1.drop (t.length - pl))) = some (vN e) := by
                        rcases hv with ⟨_, h1⟩ | h1
                        · cases h1
                        · exact h1
                      refine ⟨_, rfl, D, rfl, .inr ⟨kvs, .inl hDv⟩, _, rfl, _, DGet.t hDv hUv, rfl, _, rfl, ?_⟩
                      rw [hv2]
                      refine iteF ?_
                      refine ⟨_, rfl, _, rfl, D, vN e, rfl, by rw [← hv2]; exact DGet.t hDv hUv, _, rfl, _, rfl, R, _, _, .ref qi, rfl, rfl, SqL.of (f.k M2.at_), rd1 f, _, rfl, qi, _, _, _, rfl, rfl, SqL.of (f.k hxi), by rw [Int.zero_add]; exact atI_nat (at_oV hoc), _, rfl, _, _, rfl, rfl, _, _, rfl, rfl, _, rfl, ?_⟩
                      by_cases hb : c0 + op.2.2.1 < e
                      · rw [decide_eq_true (by omega)]
                        refine iteT ?_
                        refine ⟨_, rfl, _, rfl, R, _, _, .ref qi, rfl, rfl, SqL.of (f.k M2.at_), rd1 f, _, rfl, qi, _, _, _, rfl, rfl, SqL.of (f.k hxi), by rw [Int.zero_add]; exact atI_nat (at_oV hoc), _, rfl, _, _, rfl, rfl, _, rfl, _, rfl, D, _, rfl, DPut.t (k := kSt (p, op.1.drop (t.length - pl))) hDv hUv hlen, ?_⟩
                        exact fin1 (bet_some.mpr hb)
                      · rw [decide_eq_false (by omega)]
                        refine iteF ⟨_, _, rfl, DJ.congr ⟨kvs, f, hDv, hK, hR.keep hv hL (fun z => hb (bet_some.mp z))⟩ cl⟩
                  · rintro σ' H' ⟨o14, o15, rfl, d⟩
                    refine ⟨_, _, _, rfl, d.congr fun s c => ?_⟩
                    rw [show (trow.map vN).length = trow.length from List.length_map _, List.take_length]
                    constructor
                    · rintro ((h | h | h | ⟨row, q', c1, tr, p, a1, a2, a3⟩) | ⟨p, a1, a2, a3⟩)
                      · exact .inl h
                      · exact .inr (.inl h)
                      · exact .inr (.inr (.inl h))
                      · exact .inr (.inr (.inr ⟨row, q', c1, tr, p, a1, by omega, a3⟩))
                      · exact .inr (.inr (.inr ⟨rowi, q, c0, trow, p, hrowi, Nat.lt_succ_self q, hoc, htrow, a1, a2, a3⟩))
                    · rintro (h | h | h | ⟨row, q', c1, tr, p, a1, a2, a3, a4, a5, a6, a7⟩)
                      · exact .inl (.inl h)
                      · exact .inl (.inr (.inl h))
                      · exact .inl (.inr (.inr (.inl h)))
                      · rcases (by omega : q' < q ∨ q' = q) with z | rfl
                        · exact .inl (.inr (.inr (.inr ⟨row, q', c1, tr, p, a1, z, a3, a4, a5, a6, a7⟩)))
                        · rw [hrowi] at a1; cases a1
                          rw [hoc] at a3; cases a3
                          rw [htrow] at a4; cases a4
                          exact .inr ⟨p, a5, a6, a7⟩
              · rintro σ' H' ⟨o7, o14, o15, rfl, d⟩
                refine ⟨_, _, _, _, _, _, _, rfl, d.congr fun s c => or_congr Iff.rfl (or_congr Iff.rfl ⟨fun h => ?_, fun ⟨i', op', a1, a2, a3, a4⟩ => ?_⟩)⟩
                · rcases h with ⟨i', op', a1, a2⟩ | h
                  · exact ⟨i', op', by omega, a2⟩
                  · exact ⟨j, op, Nat.lt_succ_self j, hop, ⟨hlt, hmt⟩, h⟩
                · rcases (by omega : i' < j ∨ i' = j) with z | rfl
                  · exact .inl ⟨i', op', z, a2, a3, a4⟩
                  · rw [hop] at a2; cases a2; exact .inr a4
            · rw [decide_eq_false (fun z => hmt (by injection z with z; injection z with z; have := congrArg Array.toList z; simpa using this))]
              exact iteF ⟨_, _, _, _, _, _, _, rfl, nhit (fun z => hmt z.2) d⟩
          · rw [decide_eq_false (by rw [slen, slen, hdl]; omega)]
            exact iteF (iteF ⟨_, _, _, _, _, _, _, rfl, nhit (fun z => hlt z.1) d⟩)
        · rintro σ' H' ⟨o7, o10, o11, o12, o13, o14, o15, rfl, d⟩
          rw [show oxs.length = ops.length from hol.len] at d
          refine ⟨_, _, _, _, _, _, _, _, _, rfl, d.congr fun s c => or_congr Iff.rfl ⟨fun h => ?_, fun ⟨pl', a1, a2, a3⟩ => ?_⟩⟩
          · rcases h with ⟨pl', a1, a2, a3⟩ | h
            · exact ⟨pl', a1, by omega, a3⟩
            · exact ⟨pl, by omega, by omega, h⟩
          · rcases (by omega : pl' < t.length - 2 + k ∨ pl' = pl) with z | rfl
            · exact .inl ⟨pl', a1, z, a3⟩
            · exact .inr a3
      · rintro σ' H' ⟨o7, o8, o9, o10, o11, o12, o13, o14, o15, rfl, d⟩
        obtain ⟨kvs, f, hDv, hK, hR⟩ := d
        have val : ∀ s, (valV kvs (kSt s)).getD V.non = oV (least (Due b m t s)) := fun s => by
          obtain ⟨o, h1, h2⟩ := hR s
          have := due_least pok.bk oo mok hl2 hrows hlast (show t.length - 2 + (t.length - (t.length - 2)) = t.length by omega) h2
          rw [← this.eq]
          rcases h1 with ⟨h1, rfl⟩ | h1
          · rw [h1]; rfl
          · rw [h1]; rfl
        refine ⟨_, rfl, sa, rfl, ⟨_, SqL.of (f.k hsa2)⟩, fun C hC => lc_list (xs := svs) (fun i H4 => Cmp (rO rN) H' C (((stsOf m.1 rs).map fun s => least (Due b m t s)).take i) H4) (Cmp.start hC) (fun i H4 hi c => SqL.of (c.fe.k (f.k hsa2))) (fun i xv H4 hx c => ?_) (fun H4 c => ?_)⟩
        · obtain ⟨s, hs, hsr⟩ := hsv2.get hx
          obtain ⟨u, y1, y2, rfl, hu2, rfl, rfl⟩ := id hsr
          have hil := (List.getElem?_eq_some_iff.mp hs).1
          have hu4 : H4 u = some (.tup ((kSt s).map kV)) := c.fe.k (f.k hu2)
          refine ⟨rfl, ?_⟩
          refine iteT (B := Cmp (rO rN) H' C (((stsOf m.1 rs).map fun s => least (Due b m t s)).take (i + 1)) H4) ?_
          refine ⟨_, rfl, D, rfl, .inr ⟨kvs, .inl (c.fe.k hDv)⟩, _, rfl, _, DGet.t (c.fe.k hDv) hu4, ?_⟩
          rw [val s, List.take_add_one, List.getElem?_map, hs]
          exact c.add (x := least (Due b m t s)) (by rw [List.length_take, List.length_map]; omega) (Fx.refl _ _) (by cases least (Due b m t s) <;> rfl)
        · rw [hsv2.len, List.take_of_length_le (by rw [List.length_map]; exact Nat.le_refl _)] at c
          obtain ⟨_, cv, eC, hCv, alc⟩ := c.rl
          cases eC
          have hcv := alc.opts
          subst hcv
          refine ⟨C, _, rfl, .inl ⟨SqL.of hCv, fun T hT => ?_⟩⟩
          have gT := Fe.new (o := .tup (((stsOf m.1 rs).map fun s => least (Due b m t s)).map oV)) hT
          refine kk T _ _ (((e02.trans f).trans c.fe).trans gT) upd_same ⟨by rw [List.length_map], fun h c hh => ?_, fun h c ⟨s, hs, hrs2⟩ => ?_⟩
          · rw [List.getElem?_map] at hh
            cases hs : (stsOf m.1 rs)[h]? with
            | none => rw [hs] at hh; cases hh
            | some s =>
              rw [hs] at hh
              have e : least (Due b m t s) = some c := Option.some.inj hh
              have := least_is (Due b m t s)
              rw [e] at this
              exact ⟨s, rfl, (due_rs pok).mp this.1⟩
          · have hd := (due_rs pok).mpr hrs2
            have hL := least_is (Due b m t s)
            rw [List.getElem?_map, hs]
            cases e : least (Due b m t s) with
            | none => rw [e] at hL; exact absurd hd (hL c)
            | some c' => rw [e] at hL; exact ⟨c', by show some (least (Due b m t s)) = _; rw [e], hL.2 c hd⟩
end
end Fm
/-! zip of a tuple and a list: the library knows two lists and two tuples alone; made by p24.py after its way -/
namespace Fm
open PySem PySem.Spec PyProof.Rows L2
open PySem.Sem (wp)
section
variable {prog : Program} {w : World} {A : Around} {E : Value → Shared → Prop} {s : Shared}
theorem zipTL_next_item {z TI TO i1 i2 l1 l2 : Addr} {k1 k2 : Nat} {xs ys : Array Value} {x y a b : Value} {Q : Value → Shared → Prop} (D : ZipApart z TI TO i1 i2 l1 l2)
    (hz : IsZip s.heap z TI TO .none) (hTI : IsPair s.heap TI (.ref i1) (.ref i2)) (hTO : IsPair s.heap TO a b)
    (h1 : s.heap.IsTupleIter i1 l1 k1) (h2 : s.heap.IsListIter i2 l2 k2) (hl1 : s.heap.IsTuple l1 xs) (hl2 : s.heap.IsList l2 ys) (hx : xs[k1]? = some x) (hy : ys[k2]? = some y)
    (hQ : ∀ h', IsZip h' z TI TO (rawInt s.heap.objs.size) → IsPair h' TO x y → h'.IsTupleIter i1 l1 (k1 + 1) → h'.IsListIter i2 l2 (k2 + 1) → IsPair h' s.heap.objs.size x y → h'.objs.size = s.heap.objs.size + 1 →
      (∀ c o, c ≠ z → c ≠ TO → c ≠ i1 → c ≠ i2 → s.heap.get? c = some o → h'.get? c = some o) → Q (.ref s.heap.objs.size) { s with heap := h' }) :
    wpAny (model prog w) A (Builtin.«zip.__next__» ⟨[.ref z], []⟩) (fun fin s' => ∃ v, fin = .done (.ret v) ∧ Q v s') E s := by
  show wpAny _ _ (field (.ref z) 2 >>= _) _ _ _
  refine wpAny_bind (wpAny_field hz rfl (x := .bool false) rfl ?_)
  show wpAny _ _ (field (.ref z) 3 >>= _) _ _ _
  refine wpAny_bind (wpAny_field hz rfl (x := .ref TI) rfl ?_)
  refine wpAny_bind (wpAny_seqItems hTI rfl ?_)
  show wpAny _ _ (Builtin.SmallTypes.ownedTupleIsFree (.ref z) >>= _) _ _ _
  refine wpAny_bind ?_
  unfold Builtin.SmallTypes.ownedTupleIsFree
  refine wpAny_bind (wpAny_field hz rfl (x := .none) rfl (wpAny_pure ?_))
  simp only [if_true]
  refine wpAny_bind (wpAny_rule ?_)
  refine wpAny_bind (wpAny_field hz rfl (x := .ref TO) rfl ?_)
  refine wpAny_bind (wpAny_setField_rec hz (by simp) fun h₁ hz₁ hs₁ => ?_)
  replace hz₁ : IsZip h₁ z TI TO .ellipsis := hz₁
  refine wpAny_bind ?_
  simp only [List.zipIdx_cons, List.zipIdx_nil, List.forIn_cons, List.forIn_nil]

  refine wpAny_bind (wpAny_bind (wpAny_onRaise ?_))
  show wpAny _ _ (Builtin.SmallTypes.nextOf (.ref i1) >>= _) _ _ _
  refine wpAny_bind (RZ.nextOf_tuple_item (h1.extBut hs₁.extBut D.i1z) (hl1.extBut hs₁.extBut D.l1z) hx fun h₂ h1₂ hs₂ => wpAny_pure ?_)
  have hTO₂ : IsPair h₂ TO a b := hs₂.extBut _ _ D.TOi1 (hs₁.extBut _ _ D.TOz hTO)
  refine wpAny_bind (wpAny_seqItems hTO₂ rfl ?_)
  refine wpAny_bind (wpAny_updateSeq_pair hTO₂ fun h₃ hTO₃ hs₃ => ?_)
  replace hTO₃ : IsPair h₃ TO x b := hTO₃
  refine wpAny_bind (wpAny_letGo (wpAny_pure ?_))

  refine wpAny_bind (wpAny_bind (wpAny_onRaise ?_))
  show wpAny _ _ (Builtin.SmallTypes.nextOf (.ref i2) >>= _) _ _ _
  refine wpAny_bind (wpAny_nextOf_list_item (((h2.extBut hs₁.extBut D.i2z).extBut hs₂.extBut D.i12.symm).extBut hs₃.extBut D.TOi2.symm)
    (((hl2.extBut hs₁.extBut D.l2z).extBut hs₂.extBut D.l2i1).extBut hs₃.extBut D.l2TO) hy fun h₄ h2₄ hs₄ => wpAny_pure ?_)
  have hTO₄ : IsPair h₄ TO x b := hs₄.extBut _ _ D.TOi2 hTO₃
  refine wpAny_bind (wpAny_seqItems hTO₄ rfl ?_)
  refine wpAny_bind (wpAny_updateSeq_pair hTO₄ fun h₅ hTO₅ hs₅ => ?_)
  replace hTO₅ : IsPair h₅ TO x y := hTO₅
  refine wpAny_bind (wpAny_letGo (wpAny_pure (wpAny_pure ?_)))

  refine wpAny_bind (wpAny_seqItems hTO₅ rfl ?_)
  refine wpAny_bind (wpAny_newTuple ?_)
  have hsz : h₅.objs.size = s.heap.objs.size := by rw [hs₅.1, hs₄.1, hs₃.1, hs₂.1, hs₁.1]
  have hz₅ : IsZip h₅ z TI TO .ellipsis := hs₅.extBut _ _ D.TOz.symm (hs₄.extBut _ _ D.i2z.symm (hs₃.extBut _ _ D.TOz.symm (hs₂.extBut _ _ D.i1z.symm hz₁)))
  have hk₅ : ∀ c o, c ≠ z → c ≠ TO → c ≠ i1 → c ≠ i2 → s.heap.get? c = some o → h₅.get? c = some o := fun c o c1 c2 c3 c4 e =>
    hs₅.extBut _ _ c2 (hs₄.extBut _ _ c4 (hs₃.extBut _ _ c2 (hs₂.extBut _ _ c3 (hs₁.extBut _ _ c1 e))))
  have h1₅ : h₅.IsTupleIter i1 l1 (k1 + 1) := ((h1₂.extBut hs₃.extBut D.TOi1.symm).extBut hs₄.extBut D.i12).extBut hs₅.extBut D.TOi1.symm
  have h2₅ : h₅.IsListIter i2 l2 (k2 + 1) := h2₄.extBut hs₅.extBut D.TOi2.symm
  have hzlt : z < h₅.objs.size := Heap.lt_size hz₅
  have hTOlt : TO < h₅.objs.size := Heap.lt_size hTO₅
  have hi1lt : i1 < h₅.objs.size := by obtain ⟨_, e, _⟩ := h1₅; exact Heap.lt_size e
  have hi2lt : i2 < h₅.objs.size := by obtain ⟨_, e, _⟩ := h2₅; exact Heap.lt_size e
  show wpAny _ _ (Builtin.SmallTypes.ownedTupleHandOut (.ref z) (.ref h₅.objs.size) >>= _) _ _ _
  refine wpAny_bind ?_
  unfold Builtin.SmallTypes.ownedTupleHandOut
  have hz₆ : IsZip (h₅.push { cls := .type "tuple", data := .seq #[x, y] }) z TI TO .ellipsis := Heap.get?_push_of_some _ hz₅
  refine wpAny_bind (wpAny_setField_rec hz₆ (by simp) fun h₇ hz₇ hs₇ => ?_)
  replace hz₇ : IsZip h₇ z TI TO (rawInt h₅.objs.size) := hz₇
  refine wpAny_setField_rec hz₇ (by simp) fun h₈ hz₈ hs₈ => ?_
  replace hz₈ : IsZip h₈ z TI TO (rawInt h₅.objs.size) := hz₈
  have up : ∀ c o, c ≠ z → h₅.get? c = some o → h₈.get? c = some o := fun c o c1 e => hs₈.extBut _ _ c1 (hs₇.extBut _ _ c1 (Heap.get?_push_of_some _ e))
  have hT₈ : IsPair h₈ h₅.objs.size x y := hs₈.extBut _ _ (Nat.ne_of_gt hzlt) (hs₇.extBut _ _ (Nat.ne_of_gt hzlt) (Heap.get?_push_size _ rfl))
  have hz8 : h₈.objs.size = h₅.objs.size + 1 := by rw [hs₈.1, hs₇.1, Heap.size_push]
  rw [hsz] at hz₈ hT₈ hz8
  refine wpAny_pure ⟨_, rfl, ?_⟩
  show Q (.ref h₅.objs.size) _
  rw [hsz]
  exact hQ h₈ hz₈ (up _ _ D.TOz hTO₅) (h1₅.at fun o e => up _ o D.i1z e) (h2₅.at fun o e => up _ o D.i2z e) hT₈ hz8 fun c o c1 c2 c3 c4 e => up c o c1 (hk₅ c o c1 c2 c3 c4 e)

theorem zipTL_next_end {z TI TO i1 i2 l1 l2 : Addr} {k1 k2 : Nat} {xs ys : Array Value} {a b : Value} {Q : Fin → Shared → Prop} (hh : A.handled = none) (D : ZipApart z TI TO i1 i2 l1 l2)
    (hz : IsZip s.heap z TI TO .none) (hTI : IsPair s.heap TI (.ref i1) (.ref i2)) (hTO : IsPair s.heap TO a b)
    (h1 : s.heap.IsTupleIter i1 l1 k1) (h2 : s.heap.IsListIter i2 l2 k2) (hl1 : s.heap.IsTuple l1 xs) (hl2 : s.heap.IsList l2 ys) (hend : xs[k1]? = none ∨ ys[k2]? = none)
    (hE : ∀ h' e, (∀ c o, c ≠ z → c ≠ TO → c ≠ i1 → c ≠ i2 → s.heap.get? c = some o → h'.get? c = some o) → (∃ o, h'.get? e = some o ∧ o.cls = .type "StopIteration") → E (.ref e) { s with heap := h' }) :
    wpAny (model prog w) A (Builtin.«zip.__next__» ⟨[.ref z], []⟩) Q E s := by
  show wpAny _ _ (field (.ref z) 2 >>= _) _ _ _
  refine wpAny_bind (wpAny_field hz rfl (x := .bool false) rfl ?_)
  show wpAny _ _ (field (.ref z) 3 >>= _) _ _ _
  refine wpAny_bind (wpAny_field hz rfl (x := .ref TI) rfl ?_)
  refine wpAny_bind (wpAny_seqItems hTI rfl ?_)
  show wpAny _ _ (Builtin.SmallTypes.ownedTupleIsFree (.ref z) >>= _) _ _ _
  refine wpAny_bind ?_
  unfold Builtin.SmallTypes.ownedTupleIsFree
  refine wpAny_bind (wpAny_field hz rfl (x := .none) rfl (wpAny_pure ?_))
  simp only [if_true]
  refine wpAny_bind (wpAny_rule ?_)
  refine wpAny_bind (wpAny_field hz rfl (x := .ref TO) rfl ?_)
  refine wpAny_bind (wpAny_setField_rec hz (by simp) fun h₁ hz₁ hs₁ => ?_)
  replace hz₁ : IsZip h₁ z TI TO .ellipsis := hz₁
  refine wpAny_bind ?_
  simp only [List.zipIdx_cons, List.zipIdx_nil, List.forIn_cons, List.forIn_nil]
  refine wpAny_bind (wpAny_bind (wpAny_onRaise ?_))
  show wpAny _ _ (Builtin.SmallTypes.nextOf (.ref i1) >>= _) _ _ _
  cases hx : xs[k1]? with
  | none =>
    refine wpAny_bind (RZ.nextOf_tuple_end hh (h1.extBut hs₁.extBut D.i1z) (hl1.extBut hs₁.extBut D.l1z) hx fun h₂ e hs₂ he => ?_)
    obtain ⟨oe, hoe, hce⟩ := he
    have hz₂ : IsZip h₂ z TI TO .ellipsis := hs₂ _ _ D.i1z.symm hz₁
    have hez : e ≠ z := fun x => by subst x; rw [hz₂] at hoe; cases hoe; simp at hce
    refine wpAny_setField_rec hz₂ (by simp) fun h₃ _ hs₃ => hE h₃ e (fun c o c1 _ c3 _ x => hs₃.extBut _ _ c1 (hs₂ _ _ c3 (hs₁.extBut _ _ c1 x))) ⟨oe, hs₃.extBut _ _ hez hoe, hce⟩
  | some x =>
    have hy : ys[k2]? = none := by rcases hend with h | h; rw [hx] at h; cases h; exact h
    refine wpAny_bind (RZ.nextOf_tuple_item (h1.extBut hs₁.extBut D.i1z) (hl1.extBut hs₁.extBut D.l1z) hx fun h₂ h1₂ hs₂ => wpAny_pure ?_)
    have hTO₂ : IsPair h₂ TO a b := hs₂.extBut _ _ D.TOi1 (hs₁.extBut _ _ D.TOz hTO)
    refine wpAny_bind (wpAny_seqItems hTO₂ rfl ?_)
    refine wpAny_bind (wpAny_updateSeq_pair hTO₂ fun h₃ hTO₃ hs₃ => ?_)
    refine wpAny_bind (wpAny_letGo (wpAny_pure ?_))
    refine wpAny_bind (wpAny_bind (wpAny_onRaise ?_))
    show wpAny _ _ (Builtin.SmallTypes.nextOf (.ref i2) >>= _) _ _ _
    refine wpAny_bind (wpAny_nextOf_list_end hh (((h2.extBut hs₁.extBut D.i2z).extBut hs₂.extBut D.i12.symm).extBut hs₃.extBut D.TOi2.symm)
      (((hl2.extBut hs₁.extBut D.l2z).extBut hs₂.extBut D.l2i1).extBut hs₃.extBut D.l2TO) hy fun h₄ e hs₄ he => ?_)
    obtain ⟨oe, hoe, hce⟩ := he
    have hz₄ : IsZip h₄ z TI TO .ellipsis := hs₄ _ _ D.i2z.symm (hs₃.extBut _ _ D.TOz.symm (hs₂.extBut _ _ D.i1z.symm hz₁))
    have hez : e ≠ z := fun x => by subst x; rw [hz₄] at hoe; cases hoe; simp at hce
    refine wpAny_setField_rec hz₄ (by simp) fun h₅ _ hs₅ => hE h₅ e (fun c o c1 c2 c3 c4 x => hs₅.extBut _ _ c1 (hs₄ _ _ c4 (hs₃.extBut _ _ c2 (hs₂.extBut _ _ c3 (hs₁.extBut _ _ c1 x))))) ⟨oe, hs₅.extBut _ _ hez hoe, hce⟩

theorem pyNext_zipTL_item {z TI TO i1 i2 l1 l2 : Addr} {k1 k2 : Nat} {xs ys : Array Value} {x y a b : Value} {Q : Option Value → Shared → Prop} (D : ZipApart z TI TO i1 i2 l1 l2)
    (hz : IsZip s.heap z TI TO .none) (hTI : IsPair s.heap TI (.ref i1) (.ref i2)) (hTO : IsPair s.heap TO a b)
    (h1 : s.heap.IsTupleIter i1 l1 k1) (h2 : s.heap.IsListIter i2 l2 k2) (hl1 : s.heap.IsTuple l1 xs) (hl2 : s.heap.IsList l2 ys) (hx : xs[k1]? = some x) (hy : ys[k2]? = some y)
    (hQ : ∀ h', IsZip h' z TI TO (rawInt s.heap.objs.size) → IsPair h' TO x y → h'.IsTupleIter i1 l1 (k1 + 1) → h'.IsListIter i2 l2 (k2 + 1) → IsPair h' s.heap.objs.size x y → h'.objs.size = s.heap.objs.size + 1 →
      (∀ c o, c ≠ z → c ≠ TO → c ≠ i1 → c ≠ i2 → s.heap.get? c = some o → h'.get? c = some o) → Q (some (.ref s.heap.objs.size)) { s with heap := h' }) :
    wpAny (model prog w) A (pyNext (.ref z)) Q E s := by
  have hT : s.TypeIs (.ref z) "zip" := ⟨_, hz, rfl⟩
  unfold pyNext
  exact wpAny_bind (wpAny_attempt (wpAny_callSpecial?_slot (name := Str.ofString "__next__") hT F.slot_zip_next
    (wpAny_call_entry F.slot_zip_next hT F.entry_zip_next
      (zipTL_next_item D hz hTI hTO h1 h2 hl1 hl2 hx hy fun h' a1 a2 a3 a4 a5 a6 a7 => wpAny_pure (hQ h' a1 a2 a3 a4 a5 a6 a7)) (F.args_zip_next_1 _))))

theorem pyNext_zipTL_end {z TI TO i1 i2 l1 l2 : Addr} {k1 k2 : Nat} {xs ys : Array Value} {a b : Value} {Q : Option Value → Shared → Prop} (hh : A.handled = none) (D : ZipApart z TI TO i1 i2 l1 l2)
    (hz : IsZip s.heap z TI TO .none) (hTI : IsPair s.heap TI (.ref i1) (.ref i2)) (hTO : IsPair s.heap TO a b)
    (h1 : s.heap.IsTupleIter i1 l1 k1) (h2 : s.heap.IsListIter i2 l2 k2) (hl1 : s.heap.IsTuple l1 xs) (hl2 : s.heap.IsList l2 ys) (hend : xs[k1]? = none ∨ ys[k2]? = none)
    (hQ : ∀ h', (∀ c o, c ≠ z → c ≠ TO → c ≠ i1 → c ≠ i2 → s.heap.get? c = some o → h'.get? c = some o) → Q none { s with heap := h' }) : wpAny (model prog w) A (pyNext (.ref z)) Q E s := by
  have hT : s.TypeIs (.ref z) "zip" := ⟨_, hz, rfl⟩
  unfold pyNext
  refine wpAny_bind (wpAny_attempt (wpAny_callSpecial?_slot (name := Str.ofString "__next__") hT F.slot_zip_next
    (wpAny_call_entry F.slot_zip_next hT F.entry_zip_next (zipTL_next_end hh D hz hTI hTO h1 h2 hl1 hl2 hend fun h' e hk he => ?_) (F.args_zip_next_1 _))))
  obtain ⟨o, ho, hc⟩ := he
  refine wpAny_bind (wpAny_isInstance (T := "StopIteration") (b := true) ⟨o, ho, hc⟩ isSubtype_stop ?_)
  exact wpAny_pure (hQ _ hk)
end
abbrev zipXH1 (h : Heap) (l1 : Addr) : Heap := h.push { cls := .type "tuple_iterator", data := .fields #[.ref l1, .int 0 0] }
abbrev zipXH2 (h : Heap) (l1 l2 : Addr) : Heap := (zipXH1 h l1).push { cls := .type "list_iterator", data := .fields #[.ref l2, .int 0 0] }
abbrev zipXH3 (h : Heap) (l1 l2 : Addr) : Heap := (zipXH2 h l1 l2).push { cls := .type "tuple", data := .seq #[.ref h.objs.size, .ref (zipXH1 h l1).objs.size] }
abbrev zipXH4 (h : Heap) (l1 l2 : Addr) : Heap := (zipXH3 h l1 l2).push { cls := .type "tuple", data := .seq #[.none, .none] }
abbrev zipXH5 (h : Heap) (l1 l2 : Addr) : Heap := (zipXH4 h l1 l2).push { cls := .type "zip", data := .fields #[.none, .bool false, .bool false, .ref (zipXH2 h l1 l2).objs.size, .ref (zipXH3 h l1 l2).objs.size] }

theorem meets_zipTL_new (l1 l2 : Addr) (xs ys : Array Value) :
    Meets (Builtin.«zip.__new__» ⟨[.type "zip", .ref l1, .ref l2], []⟩) (fun _ R s => s.heap.IsTuple l1 xs ∧ s.heap.IsList l2 ys ∧
      R (.ok (.ret (.ref (zipXH4 s.heap l1 l2).objs.size))) { s with heap := zipXH5 s.heap l1 l2 }) :=
  .of_wp fun prog w A R s h => by
    obtain ⟨hp, g, d, tk, os⟩ := s; obtain ⟨hl1, hl2, h⟩ := h
    have hsub := sub_zip
    have hL1 : Heap.IsTuple (Shared.heap ⟨hp, g, d, tk, os⟩) l1 xs := hl1
    have hL2 : Heap.IsList (Shared.heap ⟨hp.push { cls := .type "tuple_iterator", data := .fields #[.ref l1, .int 0 0] }, g, d, tk, os⟩) l2 ys := Heap.IsList.push hl2 _
    wp_walk using wpAny_pyIter_tuple hL1, wpAny_pyIter_list hL2
    exact ⟨_, rfl, h⟩

section
variable {prog : Program} {w : World} {A : Around} {E : Value → Shared → Prop} {s : Shared}
theorem call_zipTL {l1 l2 : Addr} {xs ys : Array Value} {Q : Value → Shared → Prop} (hl1 : s.heap.IsTuple l1 xs) (hl2 : s.heap.IsList l2 ys)
    (h : ∀ h', IsZip h' (s.heap.objs.size + 4) (s.heap.objs.size + 2) (s.heap.objs.size + 3) .none → IsPair h' (s.heap.objs.size + 2) (.ref s.heap.objs.size) (.ref (s.heap.objs.size + 1)) →
      IsPair h' (s.heap.objs.size + 3) .none .none → h'.IsTupleIter s.heap.objs.size l1 0 → h'.IsListIter (s.heap.objs.size + 1) l2 0 → h'.objs.size = s.heap.objs.size + 5 →
      (∀ c o, s.heap.get? c = some o → h'.get? c = some o) → Q (.ref (s.heap.objs.size + 4)) { s with heap := h' }) :
    wpAny (model prog w) A (call (.type "zip") [.ref l1, .ref l2]) Q E s := by
  refine callType_new F.called_zip (by decide) (F.typeCall_zip_2 _ _) (F.newCall_zip_2 _ _) (fun obj => F.args_object_init_3 obj _ _) F.entry_zip_new
    (meets_zipTL_new l1 l2 xs ys) ⟨hl1, hl2, ?_⟩
  have z1 : (zipXH1 s.heap l1).objs.size = s.heap.objs.size + 1 := Heap.size_push ..
  have z2 : (zipXH2 s.heap l1 l2).objs.size = s.heap.objs.size + 2 := by rw [Heap.size_push, z1]
  have z3 : (zipXH3 s.heap l1 l2).objs.size = s.heap.objs.size + 3 := by rw [Heap.size_push, z2]
  have z4 : (zipXH4 s.heap l1 l2).objs.size = s.heap.objs.size + 4 := by rw [Heap.size_push, z3]
  have z5 : (zipXH5 s.heap l1 l2).objs.size = s.heap.objs.size + 5 := by rw [Heap.size_push, z4]
  have g5 : (zipXH5 s.heap l1 l2).get? (zipXH4 s.heap l1 l2).objs.size = some _ := Heap.get?_push_size _ rfl
  have g4 : (zipXH5 s.heap l1 l2).get? (zipXH3 s.heap l1 l2).objs.size = some _ := Heap.get?_push_of_some _ (Heap.get?_push_size _ rfl)
  have g3 : (zipXH5 s.heap l1 l2).get? (zipXH2 s.heap l1 l2).objs.size = some _ := Heap.get?_push_of_some _ (Heap.get?_push_of_some _ (Heap.get?_push_size _ rfl))
  have g2 : (zipXH5 s.heap l1 l2).get? (zipXH1 s.heap l1).objs.size = some _ := Heap.get?_push_of_some _ (Heap.get?_push_of_some _ (Heap.get?_push_of_some _ (Heap.get?_push_size _ rfl)))
  have g1 : (zipXH5 s.heap l1 l2).get? s.heap.objs.size = some _ := Heap.get?_push_of_some _ (Heap.get?_push_of_some _ (Heap.get?_push_of_some _ (Heap.get?_push_of_some _ (Heap.get?_push_size _ rfl))))
  show _ ∧ _
  rw [z2, z3, z4] at g5
  rw [z1, z2] at g3
  rw [z3] at g4
  rw [z1] at g2
  rw [z4]
  exact ⟨⟨_, g5, rfl⟩, h _ g5 g3 g4 ⟨_, g1, rfl, rfl⟩ ⟨_, g2, rfl, rfl⟩ z5 fun c o x =>
    Heap.get?_push_of_some _ (Heap.get?_push_of_some _ (Heap.get?_push_of_some _ (Heap.get?_push_of_some _ (Heap.get?_push_of_some _ x))))⟩
end
/-- the tuple at a and the list at b as they stand at each turn, the items in new pairs -/
def ItzTL (K : PySem.W.Frag) (a b : Addr) : It :=
  ⟨fun i H => ∃ (xs ys : List V) (x y : V), SqT K H a xs ∧ SqL K H b ys ∧ xs[i]? = some x ∧ ys[i]? = some y,
    fun i H v H' => ∃ T x y, v = .ref T ∧ H T = none ∧ H' = upd H T (.tup [x, y]) ∧ (∀ xs, SqT K H a xs → xs[i]? = some x) ∧ ∀ ys, SqL K H b ys → ys[i]? = some y,
    fun i H => ∃ xs ys : List V, SqT K H a xs ∧ SqL K H b ys ∧ (xs.length ≤ i ∨ ys.length ≤ i)⟩
theorem turn_zipTL {P : Program} {w : World} {K : PySem.W.Frag} {elts : List Expr} {kk : Nat} {tpos : Pos} {a b z TI TO i1 i2 : Addr} (D : ZipApart z TI TO i1 i2 a b) :
    Turn P w K (.Tuple elts kk tpos) (ItzTL K a b) [z, TI, TO, i1, i2] z (fun i h => IsZip h z TI TO .none ∧ IsPair h TI (.ref i1) (.ref i2) ∧ (∃ x y, IsPair h TO x y) ∧ h.IsTupleIter i1 a i ∧ h.IsListIter i2 b i) where
  mem := by simp
  obj := fun i h st c hc => by
    obtain ⟨hz, hTI, ⟨x, y, hTO⟩, ⟨o1, e1, _, d1⟩, ⟨o2, e2, _, d2⟩⟩ := st
    have e' : c = z ∨ c = TI ∨ c = TO ∨ c = i1 ∨ c = i2 := by simpa using hc
    rcases e' with q | q | q | q | q
    · rw [q]; exact ⟨_, hz, fun v q => nomatch q⟩
    · rw [q]; exact ⟨_, hTI, fun v q => nomatch q⟩
    · rw [q]; exact ⟨_, hTO, fun v q => nomatch q⟩
    · rw [q]; exact ⟨o1, e1, fun v q => by rw [d1] at q; cases q⟩
    · rw [q]; exact ⟨o2, e2, fun v q => by rw [d2] at q; cases q⟩
  keep := fun i h h' st k => by
    obtain ⟨hz, hTI, ⟨x, y, hTO⟩, h1, h2⟩ := st
    exact ⟨k z (by simp) _ hz, k TI (by simp) _ hTI, ⟨x, y, k TO (by simp) _ hTO⟩, h1.at fun o q => k i1 (by simp) o q, h2.at fun o q => k i2 (by simp) o q⟩
  item := by
    intro X hP hw hK hc i pins s σ H E I hf st hg
    subst hP hw hK
    obtain ⟨hz, hTI, ⟨x0, y0, hTO⟩, h1, h2⟩ := st
    obtain ⟨xs, ys, x, y, hqx, hqy, hx, hy⟩ := hg
    obtain ⟨its, rv, p, _⟩ := I.tuple hqx
    obtain ⟨its2, rv2, p2, _⟩ := I.list hqy
    obtain ⟨u, hu, ru⟩ := rv.get hx
    obtain ⟨u2, hu2, ru2⟩ := rv2.get hy
    have hzl : z < s.heap.objs.size := Heap.lt_size hz
    refine pyNext_zipTL_item D hz hTI hTO h1 h2 p p2.isList (x := u) (y := u2) (by simpa using hu) (by simpa using hu2) fun h' z' TO' h1' h2' hT hsz hk => ?_
    refine ⟨_, rfl, wpAny_letOwnedTupleGo_zip (s := { s with heap := h' }) z' fun h'' z'' sb => ?_⟩
    have hT2 : h''.get? s.heap.objs.size = some { cls := .type "tuple", data := .seq #[u, u2] } := (sb.2 _ (Nat.ne_of_gt hzl)).trans hT
    have new : ObjOk X.prog X.w (upd H s.heap.objs.size (.tup [x, y])) h'' s.heap.objs.size (.tup [x, y]) :=
      ⟨by show 2 ≤ sizeLine; decide, [u, u2], .cons ru (.cons ru2 .nil), ⟨_, hT2, rfl, _, rfl⟩⟩
    have I1 : Inv X pins σ (upd H s.heap.objs.size (.tup [x, y])) { s with heap := h'' } :=
      I.turnedNew (t' := s.toks) (ch := [z, TI, TO, i1, i2]) (fun c o hb q => (sb.2 c (fun q' => hb (by simp [q']))).trans (hk c o (fun q' => hb (by simp [q'])) (fun q' => hb (by simp [q'])) (fun q' => hb (by simp [q'])) (fun q' => hb (by simp [q'])) q)) hf (Nat.le_refl _) new
    refine ⟨.ref s.heap.objs.size, _, I1, rfl, ⟨_, x, y, rfl, I.hok.fresh (Nat.le_refl _), rfl, fun l hl => by rw [I.tuple_inj hl hqx]; exact hx, fun l hl => by rw [I.list_inj hl hqy]; exact hy⟩, ⟨z'', ?_, ⟨u, u2, ?_⟩, ?_, ?_⟩, fun c hcm => ?_⟩
    · exact (sb.2 _ D.TIz).trans (hk _ _ D.TIz D.TITO D.TIi1 D.TIi2 hTI)
    · exact (sb.2 _ D.TOz).trans TO'
    · exact h1'.at fun o q => (sb.2 _ D.i1z).trans q
    · exact h2'.at fun o q => (sb.2 _ D.i2z).trans q
    · have hlt : c < s.heap.objs.size := by
        have e' : c = z ∨ c = TI ∨ c = TO ∨ c = i1 ∨ c = i2 := by simpa using hcm
        rcases e' with q | q | q | q | q
        · rw [q]; exact hzl
        · rw [q]; exact Heap.lt_size hTI
        · rw [q]; exact Heap.lt_size hTO
        · rw [q]; obtain ⟨_, e1, _⟩ := h1; exact Heap.lt_size e1
        · rw [q]; obtain ⟨_, e2, _⟩ := h2; exact Heap.lt_size e2
      rw [upd_ne (Nat.ne_of_lt hlt)]
      exact (hf c hcm).1
  done := by
    intro X hP hw hK hc i pins s σ H E I hf st hg
    subst hP hw hK
    obtain ⟨hz, hTI, ⟨x0, y0, hTO⟩, h1, h2⟩ := st
    obtain ⟨xs, ys, hqx, hqy, hend⟩ := hg
    obtain ⟨its, rv, p, _⟩ := I.tuple hqx
    obtain ⟨its2, rv2, p2, _⟩ := I.list hqy
    have l1 := rv.length
    have l2 := rv2.length
    have he : its.toArray[i]? = none ∨ its2.toArray[i]? = none := by
      rcases hend with q | q
      · exact .inl (by simp; omega)
      · exact .inr (by simp; omega)
    exact pyNext_zipTL_end (I.ok.hd hc) D hz hTI hTO h1 h2 p p2.isList he fun h' hk => ⟨rfl, I.turnedL (t' := s.toks) (ch := [z, TI, TO, i1, i2]) (fun c o hb q =>
      hk c o (fun q' => hb (by simp [q'])) (fun q' => hb (by simp [q'])) (fun q' => hb (by simp [q'])) (fun q' => hb (by simp [q'])) q) hf⟩
  self := fun A i s Q E st h => wpAny_pyIter_zip st.1 h

def iZipTL (K : PySem.W.Frag) (ta : TA) : TI := fun σ H R => ta σ H fun vs H1 => ∃ a b xs ys, vs = [.ref a, .ref b] ∧ SqT K H1 a xs ∧ SqL K H1 b ys ∧ R (ItzTL K a b) H1
theorem pi_zipTL {X : Cx} {e e2 : Expr} {ta : TA} {p pos tpos : Pos} {elts : List Expr} {kk : Nat} (hg : Gl X "zip") (hm : X.mg "zip" = none) (ha : PA X [e, e2] ta)
    (hs : starEach [e, e2] X.env = (false, eval e X.env) :: starEach [e2] X.env := by rfl) (hpl : (backTo pos (starEach [e2] X.env)).any (·.1) = false := by rfl) :
    PI X (.Tuple elts kk tpos) (.Call (.Name "zip" p) [e, e2] [] pos) (iZipTL X.K ta) := by
  refine ⟨fun pins s σ H R I h => ?_⟩
  refine Call_ (ld_blt I hg hm PyProof.Rows.boot_zip (PyProof.Rows.callWith_type1 (thn (ha.run pos pins s σ H _ I h) fun us s1 ⟨vs, H1, I1, r1, q1⟩ => ?_) hs hpl))
  obtain ⟨a, b, xs, ys, ex, q1⟩ := q1
  subst ex
  cases r1 with
  | cons r rr =>
    cases rr with
    | cons r' rr =>
      cases rr
      cases r
      cases r'
      have fresh5 : ∀ c, c ∈ [s1.heap.objs.size + 4, s1.heap.objs.size + 2, s1.heap.objs.size + 3, s1.heap.objs.size, s1.heap.objs.size + 1] → FpOk X pins H1 c := fun c hcm => by
        have e' : c = s1.heap.objs.size + 4 ∨ c = s1.heap.objs.size + 2 ∨ c = s1.heap.objs.size + 3 ∨ c = s1.heap.objs.size ∨ c = s1.heap.objs.size + 1 := by simpa using hcm
        have hle : s1.heap.objs.size ≤ c := by
          rcases e' with z | z | z | z | z
          · rw [z]; exact Nat.le_add_right _ _
          · rw [z]; exact Nat.le_add_right _ _
          · rw [z]; exact Nat.le_add_right _ _
          · rw [z]; exact Nat.le_refl _
          · rw [z]; exact Nat.le_add_right _ _
        exact I1.fpOk hle (I1.hok.fresh hle)
      obtain ⟨hqx, hqy, q⟩ := q1
      obtain ⟨its, rv, p1, _⟩ := I1.tuple hqx
      obtain ⟨its2, rv2, p2, _⟩ := I1.list hqy
      obtain ⟨o1, ho1, _⟩ := id p1
      refine call_zipTL (show s1.heap.IsTuple a its.toArray from p1) p2.isList fun h' hz hTI hTO h1 h2 hsz hk => wpAny_pyIter_zip hz ?_
      have I2 : Inv X pins σ H1 { s1 with heap := h' } := I1.kept (t' := s1.toks) hk
      exact ⟨s1.heap.objs.size + 4, [s1.heap.objs.size + 4, s1.heap.objs.size + 2, s1.heap.objs.size + 3, s1.heap.objs.size, s1.heap.objs.size + 1], _, _, H1, rfl, I2, turn_zipTL (PySem.W.ktu_apart s1.heap.objs.size a b (Heap.lt_size ho1) p2.lt), ⟨hz, hTI, ⟨_, _, hTO⟩, h1, h2⟩, fresh5, q⟩
section
variable {P : Program} {w : World} {K : PySem.W.Frag}
theorem ki_zipTL {X : Cx} {e e2 : Expr} {ta : TA} {p pos tpos : Pos} {elts : List Expr} {kk : Nat} (h : X.K = K) (hg : Gl X "zip") (hm : X.mg "zip" = none) (ha : PA X [e, e2] ta)
    (hs : starEach [e, e2] X.env = (false, eval e X.env) :: starEach [e2] X.env := by rfl) (hpl : (backTo pos (starEach [e2] X.env)).any (·.1) = false := by rfl) :
    PI X (.Tuple elts kk tpos) (.Call (.Name "zip" p) [e, e2] [] pos) (iZipTL K ta) := by
  subst h; exact pi_zipTL hg hm ha hs hpl
theorem zipTL_go {K : PySem.W.Frag} {a b : Addr} {xs ys : List V} {H : Hp} {i : Nat} (hx : H a = some (.tup xs)) (hy : H b = some (.lst ys)) (h1 : i < xs.length) (h2 : i < ys.length) : (ItzTL K a b).go i H :=
  ⟨xs, ys, xs[i], ys[i], SqT.of hx, SqL.of hy, List.getElem?_eq_getElem h1, List.getElem?_eq_getElem h2⟩
theorem zipTL_stop {K : PySem.W.Frag} {a b : Addr} {xs ys : List V} {H : Hp} {i : Nat} (hx : H a = some (.tup xs)) (hy : H b = some (.lst ys)) (h1 : xs.length ≤ i) : (ItzTL K a b).stop i H := ⟨xs, ys, SqT.of hx, SqL.of hy, .inl h1⟩
theorem zipTL_yld {K : PySem.W.Frag} {a b : Addr} {xs ys : List V} {H H' : Hp} {i : Nat} {v : V} (hx : H a = some (.tup xs)) (hy : H b = some (.lst ys)) (h : (ItzTL K a b).yld i H v H') :
    ∃ T x y, v = .ref T ∧ H T = none ∧ H' = upd H T (.tup [x, y]) ∧ xs[i]? = some x ∧ ys[i]? = some y := by
  obtain ⟨T, x, y, e1, e2, e3, h1, h2⟩ := h
  exact ⟨T, x, y, e1, e2, e3, h1 xs (SqT.of hx), h2 ys (SqL.of hy)⟩
end
end Fm
/-! _law_asked -/
namespace Fm
open PySem L2
theorem LRow.uniq2 {n : Nat} {A : Nat → Nat → Prop} {r1 r2 : CRow} (a : LRow n A r1) (b : LRow n A r2) : r1 = r2 := by
  refine List.ext_getElem? fun h => ?_
  by_cases q : h < n
  · have q1 : h < r1.length := by rw [a.len]; exact q
    have q2 : h < r2.length := by rw [b.len]; exact q
    have h1 : r1[h]? = some r1[h] := List.getElem?_eq_getElem q1
    have h2 : r2[h]? = some r2[h] := List.getElem?_eq_getElem q2
    rw [h1, h2, (a.least h1).uniq (b.least h2)]
  · rw [List.getElem?_eq_none (by rw [a.len]; omega), List.getElem?_eq_none (by rw [b.len]; omega)]
theorem oV_sc (o : Option Nat) : Sc (oV o) := by
  cases o
  · exact .non
  · exact .int _
theorem oV_same {H : Hp} : ∀ row : CRow, Paired (sSc H) (row.map oV) (row.map oV)
  | [] => .nil
  | o :: row => .cons ⟨oV_sc o, rfl⟩ (oV_same row)
theorem sts_same {H : Hp} : ∀ {xs ys : List V} {sts : List Stg}, Al (rP rN rS) H xs sts → Al (rP rN rS) H ys sts → Paired (sTu sSc H) xs ys
  | _, _, _, .nil, .nil => .nil
  | _, _, _, .cons h t, .cons h2 t2 => by
    obtain ⟨a, x, y, rfl, ha, rfl, rfl⟩ := id h
    obtain ⟨b, x2, y2, rfl, hb, hx, hy⟩ := id h2
    have hx : x2 = _ := hx
    have hy : y2 = _ := hy
    subst hx hy
    exact .cons ⟨a, b, _, _, rfl, rfl, ha, hb, .cons ⟨.int _, rfl⟩ (.cons ⟨.str _, rfl⟩ .nil)⟩ (sts_same t t2)
section
variable {P : Program} {w : World} {K : PySem.W.Frag} {g : Str → Option Value} {base : Heap}
def spAsked : Sp := fun vs H Q _ => ∃ (b : Book) (m : Mach) (t : List Nat) (v1 v2 : V), vs = [v1, v2, .str ⟨t.toArray⟩] ∧ rBook H v1 b ∧ rMach H v2 m ∧ POk b m ∧ m.2.2.length < 60 ∧ (∀ x ∈ t, x ∈ b.1) ∧ t.length ≤ 100000 ∧ ∀ H', Fe H H' → Q (.bl true) H'
theorem ok_law_asked (T : Txt K g) : FnOk P w K g base CX0 8 T.d_law_asked.f T.d_law_asked.fd P_law_asked spAsked := by
  refine T.d_law_asked.F.ok sc_law_asked (fun vs H Q E h => ?_) (fun cdv A outer s H vs Q E hr h => ?_)
  · obtain ⟨_, _, _, _, _, rfl, _⟩ := h
    rfl
  · obtain ⟨b, m, t, v1, v2, rfl, hb, hm, pok, hm60, htl, ht, kk⟩ := h
    have hu := hu_of hr
    refine ⟨_, (pss_cons (ps_set (i := 3) sc_law_asked.nd rfl (by first | exact Or.inl rfl | exact Or.inr rfl) (pe_call (ok_law_rests T) (hr.mono (by decide)) rfl T.d_law_rests.mg T.d_law_rests.kp T.d_law_rests.b .nil pass0 (pa_cons (pv 0) pa_nil)))
    (pss_cons (ps_set (i := 4) sc_law_asked.nd rfl (by first | exact Or.inl rfl | exact Or.inr rfl) (pe_lst pa_nil))
    (pss_cons (ps_for PassesOwn.never rfl (pi_range1 rfl T.z_range (pa_cons (pe_ix (kx_tup (K := K) rfl) (pv 1) pe_int (fun _ _ => rfl)) pa_nil)) (pg_name (i := 5) sc_law_asked.nd rfl (by first | exact Or.inl rfl | exact Or.inr rfl))
      (pss_one (ps_set (i := 4) sc_law_asked.nd rfl (by first | exact Or.inl rfl | exact Or.inr rfl) (pe_op op_cat (pv 4) (pe_lc (own := [("rest", 9)]) rfl sc_law_asked.nd (ki_list (K := K) rfl (pv 3)) (blkOk_by (N := N_law_asked) (sc := defScope s_law_asked) (by decide +kernel)) (fun _ _ _ _ _ => by exact (pg_name (i := 9) sc_law_asked.nd rfl (by first | exact Or.inl rfl | exact Or.inr rfl))) (fun _ _ _ _ _ => by exact pts_nil) (fun _ _ _ _ _ => by exact (pe_tup (pa_cons (pv 5) (pa_cons (pv 9) pa_nil)))))))))
    (pss_cons (ps_if (pt_not (pt_val (pe_call (same_all T) (hr.mono (by decide)) rfl T.d_law_same.mg T.d_law_same.kp T.d_law_same.b .nil pass0 (pa_cons (pe_call (ok_standings_of T) (hr.mono (by decide)) rfl T.d_standings_of.mg T.d_standings_of.kp T.d_standings_of.b .nil pass0 (pa_cons (pv 0) (pa_cons (pv 1) pa_nil))) (pa_cons (pe_callTy (kc_tuple (K := K) rfl) (by rfl) T.z_tuple (by decide +kernel) (pa_cons (pv 4) pa_nil)) pa_nil)))))
      (pss_one (ps_ret pe_bl))
      pss_nil)
    (pss_cons (ps_set (i := 6) sc_law_asked.nd rfl (by first | exact Or.inl rfl | exact Or.inr rfl) (pe_call (ok_law_due_row T) (hr.mono (by decide)) rfl T.d_law_due_row.mg T.d_law_due_row.kp T.d_law_due_row.b .nil pass0 (pa_cons (pv 0) (pa_cons (pv 1) (pa_cons (pv 2) (pa_cons (pv 4) pa_nil))))))
    (pss_cons (ps_if (pt_not (pt_val (pe_call (same_all T) (hr.mono (by decide)) rfl T.d_law_same.mg T.d_law_same.kp T.d_law_same.b .nil pass0 (pa_cons (pe_call (ok_cost_row T) (hr.mono (by decide)) rfl T.d_cost_row.mg T.d_cost_row.kp T.d_cost_row.b .nil pass0 (pa_cons (pv 0) (pa_cons (pv 1) (pa_cons (pv 2) pa_nil)))) (pa_cons (pv 6) pa_nil)))))
      (pss_one (ps_ret pe_bl))
      pss_nil)
    (pss_cons (ps_setLc (i := 7) (own := [("cell", 10), ("standing", 11)]) rfl sc_law_asked.nd rfl rfl (sw_true rfl rfl rfl (by decide +kernel)) (ki_zipTL (K := K) rfl rfl T.z_zip (pa_cons (pv 6) (pa_cons (pv 4) pa_nil))) (blkOk_by (N := N_law_asked) (sc := defScope s_law_asked) (by decide +kernel)) (fun _ _ _ _ _ => by exact (kg_tup (K := K) 2 rfl rfl (pgs_cons (pg_name (i := 10) sc_law_asked.nd rfl (by first | exact Or.inl rfl | exact Or.inr rfl)) (pgs_cons (pg_name (i := 11) sc_law_asked.nd rfl (by first | exact Or.inl rfl | exact Or.inr rfl)) pgs_nil)))) (fun _ _ _ _ _ => by exact pts_one (PW.pt (pw_and (pt_cmpR op_notN (pv 10) pe_non (nomark _)) (pw_and (pt_cmpR op_eq (pe_ix (kx_tup (K := K) rfl) (pv 11) pe_int (fun _ _ => rfl)) pe_str (nomark _)) (pw_and1 (pt_cmpR (ko_in (K := K) rfl) (pe_ix (kx_tup (K := K) rfl) (pv 11) pe_int (fun _ _ => rfl)) (pe_ix (kx_tup (K := K) rfl) (pv 1) pe_int (fun _ _ => rfl)) (by rfl))))))) (fun _ _ _ _ _ => by exact (pv 10)))
    (pss_cons (ps_set (i := 8) sc_law_asked.nd rfl (by first | exact Or.inl rfl | exact Or.inr rfl) pe_non)
    (pss_cons (ps_if (pt_cmpR op_gt (pe_callB (kc_len (K := K) rfl) (by rfl) T.z_len PySem.boot_len (pa_cons (pv 7) pa_nil)) pe_int (nomark _))
      (pss_one (ps_set (i := 8) sc_law_asked.nd rfl (by first | exact Or.inl rfl | exact Or.inr rfl) (pe_callB (kc_min (K := K) rfl rfl) (by rfl) T.z_min (by decide +kernel) (pa_cons (pv 7) pa_nil))))
      pss_nil)
    (pss_one (ps_ret (pe_call (same_all T) (hr.mono (by decide)) rfl T.d_law_same.mg T.d_law_same.kp T.d_law_same.b .nil pass0 (pa_cons (pe_call (ok_mend_distance T) (hr.mono (by decide)) rfl T.d_mend_distance.mg T.d_mend_distance.kp T.d_mend_distance.b .nil pass0 (pa_cons (pv 0) (pa_cons (pv 1) (pa_cons (pv 2) pa_nil)))) (pa_cons (pv 8) pa_nil)))))))))))))), ?_⟩
    obtain ⟨ma, vst, ven, vsp, rfl, hma, rfl, hen, hsp⟩ := id hm
    obtain ⟨ea, exs, rfl, hea, heal⟩ := id hen
    have mok := pok.mo
    refine ⟨_, rfl, b, v1, rfl, hb, pok.bk, pok.e30, fun rq rs H1 e1 hrq hrs => ?_⟩
    refine ⟨Nat.zero_le _, fun S0 hS0 => ?_⟩
    have g0 : Fe H (upd H1 S0 (.lst [])) := e1.trans (Fe.new hS0)
    have hrq0 := (Fe.new (o := .lst []) hS0).k hrq
    have hst4 : ∀ n, n ≤ m.1 → (stsOf n rs).length ≤ 3660 := fun n hn => by
      rw [stsOf_len]
      have h1 := pok.e30 rs hrs.nd fun r hr => (hrs.mem r).mp hr
      have h2 := pok.few
      have := Nat.mul_le_mul (Nat.le_trans hn h2) h1
      omega
    have S00 : (upd H1 S0 (.lst [])) S0 = some (.lst []) := upd_same
    generalize upd H1 S0 (.lst []) = HA at g0 hrq0 S00
    refine ⟨_, rfl, ma, _, _, _, rfl, rfl, SqT.of (g0.k hma), atI_nat (j := 0) rfl, _, rfl, by have := pok.few; omega, by have := pok.few; omega, ?_⟩
    have hcm : (m.1 : Int).toNat = m.1 := by omega
    rw [hcm]
    refine for_range (lo := 0) (n := m.1) (fun i σ' H' => ∃ (S : Addr) (svs : List V) (o5 : Option V), σ' = [some v1, some (.ref ma), some (.str ⟨t.toArray⟩), some (.ref rq), some (.ref S), o5, none, none, none, none, none, none] ∧ Fe HA H' ∧ H' S = some (.lst svs) ∧ Al (rP rN rS) H' svs (stsOf i rs)) ⟨S0, [], _, rfl, Fx.refl _ _, S00, .nil⟩ ?_ ?_
    · rintro i σ' H2 hi ⟨S, svs, o5, rfl, e2, hS, al⟩
      rw [show ((0:Int)+(i:Int)) = (i:Int) from Int.zero_add _]
      have hrq2 := e2.k hrq0
      refine ⟨_, rfl, _, rfl, rq, rfl, ⟨_, SqL.of hrq2⟩, fun C hC => lc_list (xs := rs.map fun r => V.str (tS r)) (fun j H' => Cmp (rP rN rS) H2 C ((rs.take j).map fun r => (i, r)) H') (Cmp.start hC) (fun j H' hj c => SqL.of (c.fe.k hrq2)) (fun j xv H' hx c => ?_) (fun H3 c => ?_)⟩
      · rw [List.getElem?_map] at hx
        obtain ⟨r, hrr, rfl⟩ : ∃ r, rs[j]? = some r ∧ xv = V.str (tS r) := by
          cases z : rs[j]? with
          | none => rw [z] at hx; cases hx
          | some r => rw [z] at hx; exact ⟨r, rfl, (Option.some.inj hx).symm⟩
        have hj := (List.getElem?_eq_some_iff.mp hrr).1
        have h61 := pok.e30 rs hrs.nd fun r hr => (hrs.mem r).mp hr
        refine ⟨rfl, ?_⟩
        refine iteT (B := Cmp (rP rN rS) H2 C ((rs.take (j + 1)).map fun r => (i, r)) H') ?_
        refine ⟨_, rfl, _, rfl, by show 2 ≤ sizeLine; decide, fun U hU => ?_⟩
        have e : (rs.take (j + 1)).map (fun r => (i, r)) = (rs.take j).map (fun r => (i, r)) ++ [(i, r)] := by rw [List.take_add_one, hrr, List.map_append]; rfl
        rw [e]
        exact c.add (x := (i, r)) (y := .ref U) (by rw [List.length_map, List.length_take]; omega) (Fe.new hU) ⟨U, _, _, rfl, upd_same, rfl, rfl⟩
      · rw [List.length_map, List.take_length] at c
        obtain ⟨_, cv, eC, hCv, alc⟩ := c.rl
        cases eC
        have hlenn : svs.length + cv.length ≤ 7320 := by
          have h1 := al.len
          have h2 := alc.len
          rw [List.length_map] at h2
          have h3 := hst4 i (Nat.le_of_lt hi)
          have h61 := pok.e30 rs hrs.nd fun r hr => (hrs.mem r).mp hr
          omega
        refine ⟨S, C, _, _, rfl, rfl, c.fe.k hS, hCv, by rw [sizeLine_eq]; omega, fun p hp => ?_⟩
        have gp := Fe.new (o := .lst (svs ++ cv)) hp
        refine ⟨p, svs ++ cv, _, rfl, (e2.trans c.fe).trans gp, upd_same, ?_⟩
        rw [stsOf_succ]
        exact Al.app (Al.mo (c.fe.trans gp) al) (Al.mo gp alc)
    · rintro σ' H2 ⟨S, svs, o5, rfl, e2, hS, al⟩
      have e02 := g0.trans e2
      refine ⟨_, rfl, _, rfl, b, m, v1, .ref ma, rfl, Mo.mo (r := rBook) e02 hb, Mo.mo (r := rMach) e02 hm, pok, fun H3 T1 ys rs1 e3 hT1 hrs1 al1 => ?_⟩
      have ers : rs1 = rs := hrs1.eq hrs
      subst ers
      have hS3 := e3.k hS
      have al3 : Al (rP rN rS) H3 svs (stsOf m.1 rs1) := Al.mo e3 al
      refine ⟨_, rfl, S, _, rfl, .inl ⟨SqL.of hS3, fun U hU => ?_⟩⟩
      have gU := Fe.new (o := .tup svs) hU
      have e03 := (e02.trans e3).trans gU
      refine .inr (.inr ⟨.ref T1, .ref U, rfl, ⟨T1, U, ys, svs, rfl, rfl, gU.k hT1, upd_same, sts_same (Al.mo gU al1) (Al.mo gU al3)⟩, fun H4 e4 => ?_⟩)
      have e04 := e03.trans e4
      refine ⟨_, rfl, iteF ?_⟩
      have hS4 := e4.k (gU.k hS3)
      have al4 : Al (rP rN rS) H4 svs (stsOf m.1 rs1) := Al.mo e4 (Al.mo gU al3)
      refine ⟨_, rfl, _, rfl, _, rfl, _, rfl, b, m, t, v1, .ref ma, S, svs, rs1, rfl, Mo.mo (r := rBook) e04 hb, Mo.mo (r := rMach) e04 hm, pok, hm60, ht, hS4, hrs, al4, fun T2 row H5 e5 hT2 hrow => ?_⟩
      have e05 := e04.trans e5
      refine ⟨_, rfl, _, rfl, _, rfl, b, m, t, v1, .ref ma, rfl, Mo.mo (r := rBook) e05 hb, Mo.mo (r := rMach) e05 hm, pok, htl, fun H6 T3 row3 rs3 e6 hT3 hrs3 hrow3 hstd => ?_⟩
      have ers3 : rs3 = rs1 := hrs3.eq hrs
      subst ers3
      have erow : row3 = row := LRow.uniq2 (hrow3.imp (fun h c q => (rc_rs hstd.ok t h c).mp q) (fun h c q => ⟨c, (rc_rs hstd.ok t h c).mpr q, Nat.le_refl _⟩)) hrow
      subst erow
      have hT26 := e6.k hT2
      refine ⟨_, rfl, .inr (.inl ⟨.ref T3, .ref T2, rfl, ⟨T3, T2, _, _, rfl, rfl, hT3, hT26, oV_same row3⟩, fun H7 e7 => ?_⟩)⟩
      have e06 := (e05.trans e6).trans e7
      refine ⟨_, rfl, iteF ?_⟩
      have hT27 := e7.k hT26
      have hS7 := (e6.trans e7).k (e5.k hS4)
      have al7 : Al (rP rN rS) H7 svs (stsOf m.1 rs3) := Al.mo (e6.trans e7) (Al.mo e5 al4)
      have hrl := hrow.len
      have hsl := al7.len
      have hma7 := e06.k hma
      have hea7 := e06.k hea
      have hen2 := heal.nats
      subst hen2
      refine ⟨_, rfl, _, rfl, T2, S, _, _, rfl, SqT.of hT27, SqL.of hS7, fun D hD => lc_by row3.length (fun i H' => ∃ l : List Nat, Cmp rN H7 D l H' ∧ l.length ≤ i ∧ ∀ c, c ∈ l ↔ ∃ (h : Nat) (s : Stg), h < i ∧ (stsOf m.1 rs3)[h]? = some s ∧ row3[h]? = some (some c) ∧ s.2 = [] ∧ s.1 ∈ m.2.1) ⟨[], Cmp.start hD, Nat.le_refl _, fun c => ⟨fun z => (nomatch z), fun ⟨h, _, z, _⟩ => by omega⟩⟩ (fun i H' hi ⟨l, c, _⟩ => ?_) (fun H' ⟨l, c, _⟩ => ?_) ?_ ?_⟩
      · exact zipTL_go (c.fe.k hT27) (c.fe.k hS7) (by rw [List.length_map]; exact hi) (by rw [hsl]; omega)
      · exact zipTL_stop (c.fe.k hT27) (c.fe.k hS7) (by rw [List.length_map]; exact Nat.le_refl _)
      · rintro i x H' HN hi ⟨l, c, hll, hlm⟩ hyd
        obtain ⟨W, x, y, rfl, hW, rfl, hx, hy⟩ := zipTL_yld (c.fe.k hT27) (c.fe.k hS7) hyd
        clear hyd
        rw [List.getElem?_map, List.getElem?_eq_getElem hi] at hx
        obtain ⟨s, hs, hyr⟩ := al7.get hy
        cases hx
        have hri : row3[i]? = some row3[i] := List.getElem?_eq_getElem hi
        revert hri
        generalize row3[i] = o
        intro hri
        obtain ⟨u, x1, x2, rfl, hu2, rfl, rfl⟩ := id hyr
        have fU : Fe H' (upd H' W (.tup [oV o, .ref u])) := Fe.new hW
        have e2 := c.fe.trans fU
        have hsz : l.length < 1000000 := by
          have := hst4 m.1 (Nat.le_refl _)
          omega
        have skip : (∀ c, ¬ (o = some c ∧ s.2 = [] ∧ s.1 ∈ m.2.1)) → ∃ l : List Nat, Cmp rN H7 D l (upd H' W (.tup [oV o, .ref u])) ∧ l.length ≤ i + 1 ∧ ∀ c, c ∈ l ↔ ∃ (h : Nat) (s : Stg), h < i + 1 ∧ (stsOf m.1 rs3)[h]? = some s ∧ row3[h]? = some (some c) ∧ s.2 = [] ∧ s.1 ∈ m.2.1 := fun hn => by
          refine ⟨l, c.skip fU, by omega, fun c => (hlm c).trans ⟨fun ⟨h, s', a1, a2⟩ => ⟨h, s', by omega, a2⟩, fun ⟨h, s', a1, a2, a3, a4, a5⟩ => ?_⟩⟩
          rcases (by omega : h < i ∨ h = i) with z | rfl
          · exact ⟨h, s', z, a2, a3, a4, a5⟩
          · rw [hs] at a2; cases a2
            rw [hri] at a3; cases a3
            exact absurd ⟨rfl, a4, a5⟩ (hn c)
        refine ⟨W, _, rfl, SqT.of upd_same, rfl, _, _, rfl, _, _, rfl, rfl, rfl, ?_⟩
        refine ⟨_, rfl, rfl, _, rfl, ?_⟩
        cases o with
        | none => exact iteF (iteF (skip fun c z => nomatch z.1))
        | some d =>
          refine iteT ?_
          refine ⟨_, rfl, u, _, _, _, rfl, rfl, SqT.of (e2.k hu2), atI_nat (j := 1) rfl, rfl, _, rfl, ?_⟩
          rw [dec_str_nil]
          by_cases hs2 : s.2 = []
          · rw [decide_eq_true hs2]
            refine iteT ?_
            refine ⟨_, rfl, u, _, _, _, rfl, rfl, SqT.of (e2.k hu2), atI_nat (j := 0) rfl, _, rfl, ma, _, _, _, rfl, rfl, SqT.of (e2.k hma7), atI_nat (j := 1) rfl, ea, _, rfl, .inr (SqT.of (e2.k hea7)), rfl, flat_nats m.2.1, _, rfl, ?_⟩
            have einv : (if false = true then !inV (vN s.1) (m.2.1.map vN) else inV (vN s.1) (m.2.1.map vN)) = decide (s.1 ∈ m.2.1) := inV_nats s.1 m.2.1
            rw [einv]
            by_cases hq : s.1 ∈ m.2.1
            · rw [decide_eq_true hq]
              obtain ⟨acc, a1, a2, a3⟩ := c.add (x := d) (y := vN d) hsz fU rfl
              refine iteT ⟨_, rfl, acc, a1, a2, l ++ [d], a3, by rw [List.length_append, List.length_singleton]; omega, fun c => ?_⟩
              rw [List.mem_append, hlm c, List.mem_singleton]
              constructor
              · rintro (⟨h, s', a1, a2⟩ | rfl)
                · exact ⟨h, s', by omega, a2⟩
                · exact ⟨i, s, Nat.lt_succ_self i, hs, hri, hs2, hq⟩
              · rintro ⟨h, s', a1, a2, a3, a4, a5⟩
                rcases (by omega : h < i ∨ h = i) with z | rfl
                · exact .inl ⟨h, s', z, a2, a3, a4, a5⟩
                · rw [hri] at a3; cases a3; exact .inr rfl
            · rw [decide_eq_false hq]
              exact iteF (skip fun c z => hq z.2.2)
          · rw [decide_eq_false hs2]
            exact iteF (iteF (skip fun c z => hs2 z.2.1))
      · rintro H8 ⟨l, c, hll, hlm⟩
        have e08 := e06.trans c.fe
        obtain ⟨_, cv, eC, hCv, alc⟩ := c.rl
        cases eC
        have hcn := alc.nats
        subst hcn
        have hml : ∀ c, c ∈ l ↔ ∃ (h : Nat) (s : Stg), (stsOf m.1 rs3)[h]? = some s ∧ row3[h]? = some (some c) ∧ s.2 = [] ∧ s.1 ∈ m.2.1 := fun c => (hlm c).trans ⟨fun ⟨h, s, _, a⟩ => ⟨h, s, a⟩, fun ⟨h, s, a1, a2, a3⟩ => ⟨h, s, (List.getElem?_eq_some_iff.mp a2).1, a1, a2, a3⟩⟩
        have hmend : ∀ o, Least (fun c => c ∈ l) o → o = least (Mend b m t) := fun o ho => by
          rw [ho.eq]
          refine least_same (fun c hc => ?_) (fun c ⟨q, hq, hrs2⟩ => ?_)
          · obtain ⟨h, s, a1, a2, a3, a4⟩ := (hml c).mp hc
            obtain ⟨s', a5, a6⟩ := hrow.snd h c a2
            rw [a1] at a5; cases a5
            refine ⟨c, ⟨s.1, a4, ?_⟩, Nat.le_refl _⟩
            rw [← a3]; exact a6
          · have hso := rs_stok mok hrs2
            have hin : ((q, []) : Stg) ∈ stsOf m.1 rs3 := stsOf_mem.mpr ⟨hso.1, (hrs.mem _).mpr hso.2⟩
            obtain ⟨h, hh⟩ := List.mem_iff_getElem?.mp hin
            obtain ⟨c', a1, a2⟩ := hrow.low h c ⟨_, hh, hrs2⟩
            exact ⟨c', (hml c').mpr ⟨h, _, hh, a1, rfl, hq⟩, a2⟩
        refine ⟨_, rfl, D, _, rfl, .inl (SqL.of hCv), _, _, rfl, rfl, _, rfl, ?_⟩
        have hcv' : H8 D = some (.lst ((l.map fun n : Nat => (n : Int)).map V.int)) := by rw [hCv, List.map_map]; rfl
        cases l with
        | nil =>
          refine iteF ?_
          have hm0 := hmend none (fun c hc => nomatch hc)
          refine ⟨_, rfl, _, rfl, _, rfl, b, m, t, v1, .ref ma, rfl, Mo.mo (r := rBook) e08 hb, Mo.mo (r := rMach) e08 hm, pok, htl, fun H9 e9 => ?_⟩
          refine ⟨_, rfl, .inl ⟨_, _, rfl, ⟨oV_sc _, ?_⟩, fun H10 e10 => kk H10 ((e08.trans e9).trans e10)⟩⟩
          rw [← hm0]; rfl
        | cons d l =>
          rw [decide_eq_true (by rw [List.length_map, List.length_cons]; omega)]
          refine iteT ⟨_, rfl, D, _, rfl, SqL.of hcv', by rw [List.length_map, List.length_cons]; omega, fun mn hmn hle => ?_⟩
          obtain ⟨d0, hd0, rfl⟩ := List.mem_map.mp hmn
          have hm0 := hmend (some d0) ⟨hd0, fun c hc => by have := hle (c : Int) (List.mem_map.mpr ⟨c, hc, rfl⟩); omega⟩
          refine ⟨_, rfl, _, rfl, _, rfl, b, m, t, v1, .ref ma, rfl, Mo.mo (r := rBook) e08 hb, Mo.mo (r := rMach) e08 hm, pok, htl, fun H9 e9 => ?_⟩
          refine ⟨_, rfl, .inl ⟨_, _, rfl, ⟨oV_sc _, ?_⟩, fun H10 e10 => kk H10 ((e08.trans e9).trans e10)⟩⟩
          rw [← hm0]; rfl
end
end Fm
/-! _law_table -/
namespace Fm
open PySem L2
/-- whole operations from the beginnings -/
inductive Fw (b : Book) (t o : List Nat) : Nat → Nat → Nat → Prop
  | beg : Fw b t o 0 0 0
  | step {i j c d : Nat} {r w : List Nat} : Fw b t o i j c → (r, w, d) ∈ alle b → (t.drop i).take r.length = r → (o.drop j).take w.length = w → Fw b t o (i + r.length) (j + w.length) (c + d)
theorem fw_dst {b : Book} {t o : List Nat} {i j c : Nat} (h : Fw b t o i j c) : ∀ e, Dst b t o i j e → Dst b t o 0 0 (c + e) := by
  induction h with
  | beg => intro e h; rw [Nat.zero_add]; exact h
  | step h1 h2 h3 h4 ih =>
    intro e h
    rw [Nat.add_assoc]
    exact ih _ (.step h2 h3 h4 h)
theorem dst_fw {b : Book} {t o : List Nat} {i j e : Nat} (h : Dst b t o i j e) : ∀ c, Fw b t o i j c → Fw b t o t.length o.length (c + e) := by
  induction h with
  | fin => exact fun c h => h
  | step h2 h3 h4 _ ih =>
    intro c h
    rw [← Nat.add_assoc]
    exact ih _ (.step h h2 h3 h4)
theorem fw_end {b : Book} {t o : List Nat} {c : Nat} : Fw b t o t.length o.length c ↔ Dst b t o 0 0 c :=
  ⟨fun h => fw_dst h 0 .fin, fun h => by have := dst_fw h 0 .beg; rw [Nat.zero_add] at this; exact this⟩
theorem fw_le {b : Book} {t o : List Nat} {i j c : Nat} (h : Fw b t o i j c) : i ≤ t.length ∧ j ≤ o.length := by
  induction h with
  | beg => exact ⟨Nat.zero_le _, Nat.zero_le _⟩
  | step h1 h2 h3 h4 ih => exact ⟨take_le h3 ih.1, take_le h4 ih.2⟩
abbrev IJ := Nat × Nat
/-- candidates: those whose last step began before the place P of the sum T -/
def CA (b : Book) (t o : List Nat) (T P : Nat) (p : IJ) (c : Nat) : Prop := (p = (0, 0) ∧ c = 0) ∨ ∃ (i j c0 d : Nat) (r w : List Nat), Fw b t o i j c0 ∧ (i + j < T ∨ (i + j = T ∧ i < P)) ∧ (r, w, d) ∈ alle b ∧ (t.drop i).take r.length = r ∧ (o.drop j).take w.length = w ∧ p = (i + r.length, j + w.length) ∧ c = c0 + d
theorem ca_fw {b : Book} {t o : List Nat} {T P : Nat} {p : IJ} {c : Nat} (h : CA b t o T P p c) : Fw b t o p.1 p.2 c := by
  rcases h with ⟨rfl, rfl⟩ | ⟨i, j, c0, d, r, w, h1, _, h2, h3, h4, rfl, rfl⟩
  · exact .beg
  · exact .step h1 h2 h3 h4
theorem fw_ca {b : Book} (hne : BNe b) {t o : List Nat} {T P i j c : Nat} (h : Fw b t o i j c) (hT : i + j ≤ T) : CA b t o T P (i, j) c := by
  cases h with
  | beg => exact .inl ⟨rfl, rfl⟩
  | @step i' j' c0 d r w h1 h2 h3 h4 =>
    have := alle_ne hne h2
    exact .inr ⟨i', j', c0, d, r, w, h1, .inl (by omega), h2, h3, h4, rfl, rfl⟩
def kIJ (p : IJ) : List Key := [kN p.1, kN p.2]
theorem kIJ_inj {p q : IJ} (h : kIJ p = kIJ q) : p = q := by
  injection h with h1 h2
  injection h2 with h2 _
  exact Prod.ext (kN_inj _ _ h1) (kN_inj _ _ h2)
/-- the dict holds the least so far, numbers alone -/
def RelP (kvs : List (List Key × V)) (A : IJ → Nat → Prop) : Prop := ∀ p : IJ, ∃ o : Option Nat, valV kvs (kIJ p) = o.map vN ∧ Least (A p) o
theorem RelP.congr {kvs : List (List Key × V)} {A B : IJ → Nat → Prop} (R : RelP kvs A) (h : ∀ s c, A s c ↔ B s c) : RelP kvs B := fun s => by
  obtain ⟨o, h1, h2⟩ := R s
  exact ⟨o, h1, h2.congr (h s)⟩
theorem RelP.imp {kvs : List (List Key × V)} {A B : IJ → Nat → Prop} (R : RelP kvs A) (h : ∀ s c, A s c → B s c) (h2 : ∀ s c, B s c → ∃ c', A s c' ∧ c' ≤ c) : RelP kvs B := fun s => by
  obtain ⟨o, h1, h3⟩ := R s
  refine ⟨o, h1, ?_⟩
  rw [h3.eq, least_same (A := A s) (B := B s) (fun c hc => ⟨c, h s c hc, Nat.le_refl _⟩) (h2 s)]
  exact least_is _
theorem RelP.put {kvs : List (List Key × V)} {A : IJ → Nat → Prop} (R : RelP kvs A) {s : IJ} {o : Option Nat} {v : Nat} (hv : valV kvs (kIJ s) = o.map vN) (L : Least (A s) o) (h : Bet o v) : RelP (putK kvs (kIJ s) (vN v)) (fun s' c => A s' c ∨ (s' = s ∧ c = v)) := by
  intro s'
  by_cases q : s' = s
  · subst q
    exact ⟨some v, by rw [valV_put, if_pos rfl]; rfl, (least_put L h).congr fun c => ⟨fun z => z.imp id fun z => ⟨rfl, z⟩, fun z => z.imp id fun z => z.2⟩⟩
  · obtain ⟨o', h1, h2⟩ := R s'
    refine ⟨o', ?_, h2.congr fun c => ⟨fun z => .inl z, fun z => z.elim id fun z => absurd z.1 q⟩⟩
    rw [valV_put, if_neg (fun z => q (kIJ_inj z))]
    exact h1
theorem RelP.keep {kvs : List (List Key × V)} {A : IJ → Nat → Prop} (R : RelP kvs A) {s : IJ} {o : Option Nat} {v : Nat} (L : Least (A s) o) (h : ¬ Bet o v) : RelP kvs (fun s' c => A s' c ∨ (s' = s ∧ c = v)) := by
  intro s'
  obtain ⟨o', h1, h2⟩ := R s'
  by_cases q : s' = s
  · subst q
    refine ⟨o', h1, ?_⟩
    have e : o' = o := h2.uniq L
    subst e
    exact (least_keep L h).congr fun c => ⟨fun z => z.imp id fun z => ⟨rfl, z⟩, fun z => z.imp id fun z => z.2⟩
  · exact ⟨o', h1, h2.congr fun c => ⟨fun z => .inl z, fun z => z.elim id fun z => absurd z.1 q⟩⟩
structure KeyP (n k : Nat) (kvs : List (List Key × V)) : Prop where
  nd : (kvs.map (·.1)).Nodup
  mem : ∀ k' ∈ kvs.map (·.1), ∃ p : IJ, k' = kIJ p ∧ p.1 ≤ n ∧ p.2 ≤ k
theorem KeyP.put {n k : Nat} {kvs : List (List Key × V)} (h : KeyP n k kvs) {p : IJ} (h1 : p.1 ≤ n) (h2 : p.2 ≤ k) (v : V) : KeyP n k (putK kvs (kIJ p) v) where
  nd := by
    rw [putK_keys]
    split
    · exact h.nd
    · rename_i q
      rw [List.nodup_append]
      exact ⟨h.nd, by simp, fun a ha c hc e => q (by rw [List.mem_singleton.mp hc] at e; exact e ▸ ha)⟩
  mem := fun k' hk => by
    rw [putK_keys] at hk
    split at hk
    · exact h.mem k' hk
    · rcases List.mem_append.mp hk with hk | hk
      · exact h.mem k' hk
      · rw [List.mem_singleton.mp hk]; exact ⟨p, rfl, h1, h2⟩
theorem KeyP.len {n k : Nat} {kvs : List (List Key × V)} (h : KeyP n k kvs) : kvs.length ≤ (n + 1) * (k + 1) := by
  have := nodup_sub ((List.range (n + 1)).flatMap fun i => (List.range (k + 1)).map fun j => kIJ (i, j)) _ h.nd fun k' hk => by
    obtain ⟨p, rfl, h1, h2⟩ := h.mem k' hk
    exact List.mem_flatMap.mpr ⟨p.1, List.mem_range.mpr (by omega), List.mem_map.mpr ⟨p.2, List.mem_range.mpr (by omega), rfl⟩⟩
  rw [List.length_map] at this
  have e : ∀ n : Nat, ((List.range n).flatMap fun i => (List.range (k + 1)).map fun j => kIJ (i, j)).length = n * (k + 1) := fun n => by
    induction n with
    | zero => simp
    | succ n ih => rw [List.range_succ (n := n), List.flatMap_append, List.length_append, ih, Nat.succ_mul]; simp
  rw [e] at this
  exact this
def DP (HB : Hp) (D : Addr) (n k : Nat) (A : IJ → Nat → Prop) (H' : Hp) : Prop := ∃ kvs, Fe HB H' ∧ H' D = some (.dT kvs) ∧ KeyP n k kvs ∧ RelP kvs A
theorem DP.fe {HB H' H2 : Hp} {D : Addr} {n k : Nat} {A : IJ → Nat → Prop} (d : DP HB D n k A H') (f : Fe H' H2) : DP HB D n k A H2 := by
  obtain ⟨kvs, a, b, c, e⟩ := d
  exact ⟨kvs, a.trans f, f.k b, c, e⟩
theorem DP.congr {HB H' : Hp} {D : Addr} {n k : Nat} {A B : IJ → Nat → Prop} (d : DP HB D n k A H') (h : ∀ s c, A s c ↔ B s c) : DP HB D n k B H' := by
  obtain ⟨kvs, a, b, c, e⟩ := d
  exact ⟨kvs, a, b, c, e.congr h⟩
theorem DP.ex {HB H' : Hp} {D : Addr} {n k : Nat} {A : IJ → Nat → Prop} (d : DP HB D n k A H') : Fe HB H' := d.elim fun _ h => h.1
def CE (b : Book) (t o : List Nat) (pl aa v0 k : Nat) (p : IJ) (c : Nat) : Prop := ∃ e : List Nat × List Nat × Nat, e ∈ (alle b).take k ∧ (t.drop pl).take e.1.length = e.1 ∧ (o.drop aa).take e.2.1.length = e.2.1 ∧ p = (pl + e.1.length, aa + e.2.1.length) ∧ c = v0 + e.2.2
def CEa (b : Book) (t o : List Nat) (pl aa v0 : Nat) (p : IJ) (c : Nat) : Prop := ∃ e : List Nat × List Nat × Nat, e ∈ alle b ∧ (t.drop pl).take e.1.length = e.1 ∧ (o.drop aa).take e.2.1.length = e.2.1 ∧ p = (pl + e.1.length, aa + e.2.1.length) ∧ c = v0 + e.2.2
section
variable {P : Program} {w : World} {K : PySem.W.Frag} {g : Str → Option Value} {base : Heap}
def spTable : Sp := fun vs H Q _ => ∃ (b : Book) (t o : List Nat) (v1 : V), vs = [v1, .str ⟨t.toArray⟩, .str ⟨o.toArray⟩] ∧ rBook H v1 b ∧ BNe b ∧ b.2.length ≤ 100 ∧ b.1.length ≤ 100 ∧ t.length ≤ 500 ∧ o.length ≤ 500 ∧ (∀ e ∈ b.2, e.1.length ≤ 500 ∧ e.2.1.length ≤ 500) ∧
  ∀ H', Fe H H' → Q (oV (least (Dst b t o 0 0))) H'
theorem ok_law_table (T : Txt K g) : FnOk P w K g base CX0 1 T.d_law_table.f T.d_law_table.fd P_law_table spTable := by
  refine T.d_law_table.F.ok sc_law_table (fun vs H Q E h => ?_) (fun cdv A outer s H vs Q E hr h => ?_)
  · obtain ⟨_, _, _, _, rfl, _⟩ := h
    rfl
  · obtain ⟨b, t, o, v1, rfl, hb, hne, h100, h100b, ht, ho, hlen, kk⟩ := h
    have hu := hu_of hr
    refine ⟨_, (pss_cons (ps_set (i := 3) sc_law_table.nd rfl (by first | exact Or.inl rfl | exact Or.inr rfl) (ke_dispT hr.units0 (pps_cons (pe_tup (pa_cons pe_int (pa_cons pe_int pa_nil))) pe_int pps_nil) (by rfl) (by rfl) (fun z => by cases z) (by decide)))
    (pss_cons (ps_for PassesOwn.never rfl (pi_range1 rfl T.z_range (pa_cons (pe_op op_add (pe_op op_add (pe_callB kc_lenS (by rfl) T.z_len PySem.boot_len (pa_cons (pv 1) pa_nil)) (pe_callB kc_lenS (by rfl) T.z_len PySem.boot_len (pa_cons (pv 2) pa_nil))) pe_int) pa_nil)) (pg_name (i := 4) sc_law_table.nd rfl (by first | exact Or.inl rfl | exact Or.inr rfl))
      (pss_one (ps_for PassesOwn.never rfl (pi_range2 rfl T.z_range (pa_cons (pe_callB (call_max2 rfl) (by rfl) T.z_max (by decide +kernel) (pa_cons pe_int (pa_cons (pe_op op_sub (pv 4) (pe_callB kc_lenS (by rfl) T.z_len PySem.boot_len (pa_cons (pv 2) pa_nil))) pa_nil))) (pa_cons (pe_op op_add (pe_callB (call_min2 rfl) (by rfl) T.z_min (by decide +kernel) (pa_cons (pe_callB kc_lenS (by rfl) T.z_len PySem.boot_len (pa_cons (pv 1) pa_nil)) (pa_cons (pv 4) pa_nil))) pe_int) pa_nil))) (pg_name (i := 5) sc_law_table.nd rfl (by first | exact Or.inl rfl | exact Or.inr rfl))
        (pss_cons (ps_set (i := 6) sc_law_table.nd rfl (by first | exact Or.inl rfl | exact Or.inr rfl) (pe_op op_sub (pv 4) (pv 5)))
        (pss_one (ps_if (pt_cmp (pc_din hu (pe_tup (pa_cons (pv 5) (pa_cons (pv 6) pa_nil))) (pv 3)))
          (pss_one (ps_for PassesOwn.never rfl (ki_list (K := K) rfl (pe_op op_cat (pe_callTy (kc_list (K := K) rfl) (by rfl) T.z_list (by decide +kernel) (pa_cons (pe_ix (kx_tup (K := K) rfl) (pv 0) pe_int (fun _ _ => rfl)) pa_nil)) (pe_lc (own := [("x", 11)]) rfl sc_law_table.nd (pi_str (pe_ix (kx_tup (K := K) rfl) (pv 0) pe_int (fun _ _ => rfl))) (blkOk_by (N := N_law_table) (sc := defScope s_law_table) (by decide +kernel)) (fun _ _ _ _ _ => by exact (pg_name (i := 11) sc_law_table.nd rfl (by first | exact Or.inl rfl | exact Or.inr rfl))) (fun _ _ _ _ _ => by exact pts_nil) (fun _ _ _ _ _ => by exact (pe_tup (pa_cons (pv 11) (pa_cons (pv 11) (pa_cons pe_int pa_nil)))))))) (kg_tup (K := K) 3 rfl rfl (pgs_cons (pg_name (i := 7) sc_law_table.nd rfl (by first | exact Or.inl rfl | exact Or.inr rfl)) (pgs_cons (pg_name (i := 8) sc_law_table.nd rfl (by first | exact Or.inl rfl | exact Or.inr rfl)) (pgs_cons (pg_name (i := 9) sc_law_table.nd rfl (by first | exact Or.inl rfl | exact Or.inr rfl)) pgs_nil))))
            (pss_cons (ps_set (i := 10) sc_law_table.nd rfl (by first | exact Or.inl rfl | exact Or.inr rfl) (pe_tup (pa_cons (pe_op op_add (pv 5) (pe_callB kc_lenS (by rfl) T.z_len PySem.boot_len (pa_cons (pv 7) pa_nil))) (pa_cons (pe_op op_add (pv 6) (pe_callB kc_lenS (by rfl) T.z_len PySem.boot_len (pa_cons (pv 8) pa_nil))) pa_nil))))
            (pss_one (ps_if (PW.pt (pw_and (pt_cmpR op_eq (pe_slice sl_str (pv 1) (po_some (pv 5)) (po_some (pe_ix (kx_tup (K := K) rfl) (pv 10) pe_int (fun _ _ => rfl)))) (pv 7) (nomark _)) (pw_and1 (pt_cmpR op_eq (pe_slice sl_str (pv 2) (po_some (pv 6)) (po_some (pe_ix (kx_tup (K := K) rfl) (pv 10) pe_int (fun _ _ => rfl)))) (pv 8) (nomark _)))))
              (pss_one (ps_if (PW.pt (pw_or (pt_cmp (pc_dnotin hu (pv 10) (pv 3))) (pw_or1 (pt_cmpR op_gt (pe_dget hu (pv 3) (pv 10) (fun _ _ => rfl)) (pe_op op_add (pe_dget hu (pv 3) (pe_tup (pa_cons (pv 5) (pa_cons (pv 6) pa_nil))) (fun _ _ => rfl)) (pv 9)) (nomark _)))))
                (pss_one (ps_dput hu (pv 3) (pv 10) (pe_op op_add (pe_dget hu (pv 3) (pe_tup (pa_cons (pv 5) (pa_cons (pv 6) pa_nil))) (fun _ _ => rfl)) (pv 9)) rfl))
                pss_nil))
              pss_nil)))))
          pss_nil))))))
    (pss_one (ps_ret (pe_dget1 hu (pv 3) (pe_tup (pa_cons (pe_callB kc_lenS (by rfl) T.z_len PySem.boot_len (pa_cons (pv 1) pa_nil)) (pa_cons (pe_callB kc_lenS (by rfl) T.z_len PySem.boot_len (pa_cons (pv 2) pa_nil)) pa_nil))) (by constructor <;> rfl)))))), ?_⟩
    obtain ⟨bk, vl, ve, rfl, hbk, rfl, hed⟩ := id hb
    obtain ⟨c, eds, rfl, hc, heds⟩ := id hed
    have hedl := heds.len
    intro D hD
    refine ⟨by show 2 ≤ sizeLine; decide, fun U hU => ?_⟩
    have hDU : D ≠ U := ne_of_none upd_same hU
    have gU : Fe H (upd (upd H D (.dT [])) U (.tup [.int 0, .int 0])) := (Fe.new hD).trans (Fe.new hU)
    refine ⟨by rw [upd_ne hDU]; exact upd_same, [(kIJ (0, 0), U, .int 0)], rfl, fun q hq => by rw [List.mem_singleton.mp hq]; exact upd_same, by show 1 ≤ 15; omega, ?_⟩
    have d0 : DP H D t.length o.length (CA b t o 0 0) (upd (upd (upd H D (.dT [])) U (.tup [.int 0, .int 0])) D (.dT [(kIJ (0, 0), vN 0)])) := by
      refine ⟨_, gU.mut hD, upd_same, ⟨List.nodup_cons.mpr ⟨fun h => (nomatch h), List.nodup_nil⟩, fun k' hk => ⟨(0, 0), List.mem_singleton.mp hk, Nat.zero_le _, Nat.zero_le _⟩⟩, fun p => ?_⟩
      by_cases q : p = (0, 0)
      · subst q
        refine ⟨some 0, valV_pos rfl, .inl ⟨rfl, rfl⟩, fun c h => Nat.zero_le _⟩
      · refine ⟨none, valV_neg (fun z => q (kIJ_inj z).symm), fun c h => ?_⟩
        rcases h with ⟨h, _⟩ | ⟨i, j, c0, d, r, w, _, h, _⟩
        · exact q h
        · omega
    have d0 : DP H D t.length o.length (CA b t o 0 0) (upd (upd (upd H D (.dT [])) U (.tup [.int 0, .int 0])) D (HO.dT (mergeT [] (List.map (fun t => (t.fst, t.snd.snd)) [(kIJ (0, 0), U, V.int 0)])))) := d0
    generalize upd (upd (upd H D (.dT [])) U (.tup [.int 0, .int 0])) D (HO.dT (mergeT [] (List.map (fun t => (t.fst, t.snd.snd)) [(kIJ (0, 0), U, V.int 0)]))) = H0 at d0 ⊢
    have hsz : ∀ kvs, KeyP t.length o.length kvs → kvs.length < sizeLine := fun kvs h => by
      have h1 := h.len
      have := Nat.mul_le_mul (show t.length + 1 ≤ 501 by omega) (show o.length + 1 ≤ 501 by omega)
      rw [sizeLine_eq]; omega
    refine ⟨_, rfl, _, rfl, by rw [slen, sizeLine_eq]; omega, _, rfl, _, rfl, by rw [slen, sizeLine_eq]; omega, _, _, rfl, rfl, _, _, rfl, rfl, _, rfl, by rw [slen, slen]; omega, by rw [slen, slen]; omega, ?_⟩
    have hcn : (((⟨t.toArray⟩ : Str).length : Int) + ((⟨o.toArray⟩ : Str).length : Int) + 1).toNat = t.length + o.length + 1 := by rw [slen, slen]; omega
    rw [hcn]
    refine for_range (lo := 0) (n := t.length + o.length + 1) (fun T σ' H' => ∃ o4 o5 o6 o7 o8 o9 o10 : Option V, σ' = [some (.ref bk), some (.str ⟨t.toArray⟩), some (.str ⟨o.toArray⟩), some (.ref D), o4, o5, o6, o7, o8, o9, o10, none] ∧ DP H D t.length o.length (CA b t o T 0) H') ⟨_, _, _, _, _, _, _, rfl, d0⟩ ?_ ?_
    · clear d0
      rintro Tt σ' H1 hT ⟨o4, o5, o6, o7, o8, o9, o10, rfl, d⟩
      rw [show ((0:Int)+(Tt:Int)) = (Tt:Int) from Int.zero_add _]
      refine ⟨_, rfl, _, rfl, _, rfl, by rw [slen, sizeLine_eq]; omega, _, _, rfl, rfl, _, _, rfl, _, rfl, _, rfl, by rw [slen, sizeLine_eq]; omega, _, rfl, _, _, rfl, _, _, rfl, rfl, ?_⟩
      have hlo : (if (Tt : Int) - ((⟨o.toArray⟩ : Str).length : Int) > 0 then (Tt : Int) - ((⟨o.toArray⟩ : Str).length : Int) else 0) = ((Tt - o.length : Nat) : Int) := by
        rw [slen]; split <;> omega
      have hhi : (if (Tt : Int) < ((⟨t.toArray⟩ : Str).length : Int) then (Tt : Int) else ((⟨t.toArray⟩ : Str).length : Int)) = ((min t.length Tt : Nat) : Int) := by
        rw [slen]; split <;> omega
      refine ⟨_, _, rfl, by rw [hlo, hhi]; omega, ?_⟩
      rw [hlo, hhi]
      have hcn2 : (((min t.length Tt : Nat) : Int) + 1 - ((Tt - o.length : Nat) : Int)).toNat = min t.length Tt + 1 - (Tt - o.length) := by omega
      rw [hcn2]
      refine for_range (lo := ((Tt - o.length : Nat) : Int)) (n := min t.length Tt + 1 - (Tt - o.length)) (fun k σ' H' => ∃ o5 o6 o7 o8 o9 o10 : Option V, σ' = [some (.ref bk), some (.str ⟨t.toArray⟩), some (.str ⟨o.toArray⟩), some (.ref D), some (.int (Tt : Int)), o5, o6, o7, o8, o9, o10, none] ∧ DP H D t.length o.length (CA b t o Tt (Tt - o.length + k)) H') ⟨_, _, _, _, _, _, rfl, d.congr fun p c => ⟨fun h => ?_, fun h => ?_⟩⟩ ?_ ?_
      · rcases h with h | ⟨i, j, c0, d, r, w, h1, h2, h3⟩
        · exact .inl h
        · exact .inr ⟨i, j, c0, d, r, w, h1, .inl (by omega), h3⟩
      · rcases h with h | ⟨i, j, c0, d, r, w, h1, h2, h3⟩
        · exact .inl h
        · have := fw_le h1
          exact .inr ⟨i, j, c0, d, r, w, h1, .inl (by omega), h3⟩
      · clear d
        rintro k σ' H2 hk ⟨o5, o6, o7, o8, o9, o10, rfl, d⟩
        obtain ⟨pl, hpl⟩ : ∃ pl, pl = Tt - o.length + k := ⟨_, rfl⟩
        have hpi : ((Tt - o.length : Nat) : Int) + (k : Int) = (pl : Int) := by omega
        rw [hpi]
        rw [← Nat.add_assoc, ← hpl]
        rw [← hpl] at d
        have hplt : pl ≤ t.length := by omega
        obtain ⟨aa, haa⟩ : ∃ aa, pl + aa = Tt := ⟨Tt - pl, by omega⟩
        have hao : aa ≤ o.length := by omega
        have hat : (Tt : Int) - (pl : Int) = (aa : Int) := by omega
        refine ⟨_, rfl, _, rfl, _, _, rfl, rfl, ?_⟩
        show gName 6 (V.int ((Tt : Int) - (pl : Int))) _ _ _
        rw [hat]
        refine ⟨_, rfl, _, rfl, by show 2 ≤ sizeLine; decide, fun U2 hU2 => ?_⟩
        have gU2 := Fe.new (o := .tup [.int (pl : Int), .int (aa : Int)]) hU2
        have dU := d.fe gU2
        have hU2v : (upd H2 U2 (.tup [.int (pl : Int), .int (aa : Int)])) U2 = some (.tup ((kIJ (pl, aa)).map kV)) := upd_same
        generalize upd H2 U2 (.tup [.int (pl : Int), .int (aa : Int)]) = H3 at dU hU2v gU2 ⊢
        obtain ⟨kvs, f, hDv, hK, hR⟩ := dU
        obtain ⟨ov, hv, hL⟩ := hR (pl, aa)
        have hFw : ∀ c, CA b t o Tt pl (pl, aa) c ↔ Fw b t o pl aa c := fun c => ⟨ca_fw, fun h => fw_ca hne h (by omega)⟩
        refine ⟨_, rfl, D, _, rfl, DGet.t hDv hU2v, _, rfl, ?_⟩
        rw [hv]
        have stepP : ∀ {A : IJ → Nat → Prop} (H'), DP H D t.length o.length A H' → (∀ p c, A p c → CA b t o Tt (pl + 1) p c) → (∀ p c, CA b t o Tt (pl + 1) p c → ∃ c', A p c' ∧ c' ≤ c) → ∃ o5 o6 o7 o8 o9 o10 : Option V, True ∧ DP H D t.length o.length (CA b t o Tt (pl + 1)) H' := fun H' ⟨kvs, f, h1, h2, h3⟩ a1 a2 => ⟨none, none, none, none, none, none, trivial, kvs, f, h1, h2, h3.imp a1 a2⟩
        cases ov with
        | none =>
          refine iteF ⟨_, _, _, _, _, _, rfl, (DP.congr ⟨kvs, f, hDv, hK, hR⟩ fun p c => ⟨fun h => ?_, fun h => ?_⟩)⟩
          · rcases h with h | ⟨i, j, c0, d, r, w, h1, h2, h3⟩
            · exact .inl h
            · exact .inr ⟨i, j, c0, d, r, w, h1, by omega, h3⟩
          · rcases h with h | ⟨i, j, c0, d, r, w, h1, h2, h3⟩
            · exact .inl h
            · refine .inr ⟨i, j, c0, d, r, w, h1, ?_, h3⟩
              rcases h2 with h2 | ⟨h2, h4⟩
              · exact .inl h2
              · rcases (by omega : i < pl ∨ i = pl) with z | rfl
                · exact .inr ⟨h2, z⟩
                · have : j = aa := by omega
                  subst this
                  exact absurd ((hFw c0).mpr h1) (hL c0)
        | some v0 =>
          refine iteT ?_
          have hbk3 := f.k hbk
          have hc3 := f.k hc
          refine ⟨_, rfl, bk, _, _, _, rfl, rfl, SqT.of hbk3, atI_nat (j := 1) rfl, c, _, rfl, .inr (SqT.of hc3), fun L1 hL1 => ?_⟩
          have gL1 := Fe.new (o := .lst eds) hL1
          have al1 : Al rEd (upd H3 L1 (.lst eds)) eds b.2 := Al.mo gL1 (Al.mo f heds)
          have hL1v : (upd H3 L1 (.lst eds)) L1 = some (.lst eds) := upd_same
          have hD1 := gL1.k hDv
          have f1 := f.trans gL1
          have hUv1 := gL1.k hU2v
          generalize upd H3 L1 (.lst eds) = H4 at al1 hL1v hD1 f1 hUv1 ⊢
          refine ⟨_, rfl, bk, _, _, _, rfl, rfl, SqT.of (f1.k hbk), atI_nat (j := 0) rfl, _, rfl, fun Lb hLb => lc_by b.1.length (fun i H' => Cmp rEd H4 Lb ((b.1.take i).map fun x => ([x], [x], 0)) H') (Cmp.start hLb) (fun i H' hi c => ?_) (fun H' c => ?_) ?_ ?_⟩
          · show i < (b.1.toArray).size
            rw [List.size_toArray]; exact hi
          · show (b.1.toArray).size ≤ b.1.length
            rw [List.size_toArray]; exact Nat.le_refl _
          · intro i y H' H5 hi c hyd
            obtain ⟨rfl, x, hx, rfl⟩ := hyd
            have hx' : b.1.toArray[i]? = some x := hx
            rw [List.getElem?_toArray] at hx'
            refine ⟨rfl, ?_⟩
            refine iteT (B := Cmp rEd H4 Lb ((b.1.take (i + 1)).map fun x => ([x], [x], 0)) H5) ?_
            refine ⟨_, rfl, _, rfl, by show 3 ≤ sizeLine; decide, fun U hU => ?_⟩
            have e : (b.1.take (i + 1)).map (fun x => (([x], [x], 0) : List Nat × List Nat × Nat)) = (b.1.take i).map (fun x => ([x], [x], 0)) ++ [([x], [x], 0)] := by
              rw [List.take_add_one, hx', List.map_append]; rfl
            rw [e]
            exact c.add (x := ([x], [x], 0)) (y := .ref U) (by rw [List.length_map, List.length_take]; omega) (Fe.new hU) ⟨U, _, _, _, rfl, upd_same, rfl, rfl, rfl⟩
          · intro H5 c2
            rw [List.take_length] at c2
            obtain ⟨zs, hLbv, alz⟩ := c2.ex
            have hzl := alz.len
            rw [List.length_map] at hzl
            refine ⟨L1, Lb, eds, zs, rfl, rfl, c2.fe.k hL1v, hLbv, by rw [sizeLine_eq]; omega, fun L hLn => ?_⟩
            have gL := Fe.new (o := .lst (eds ++ zs)) hLn
            have all : Al rEd (upd H5 L (.lst (eds ++ zs))) (eds ++ zs) (alle b) := Al.app (Al.mo (c2.fe.trans gL) al1) (Al.mo gL alz)
            have hLv : (upd H5 L (.lst (eds ++ zs))) L = some (.lst (eds ++ zs)) := upd_same
            have f5 := (f1.trans c2.fe).trans gL
            have hD5 := gL.k (c2.fe.k hD1)
            generalize upd H5 L (.lst (eds ++ zs)) = H6 at all hLv f5 hD5 ⊢
            have hLD : L ≠ D := fun z => by rw [z, hD5] at hLv; cases hLv
            have hxl := all.len
            generalize eds ++ zs = xs at all hLv hxl ⊢
            refine ⟨L, rfl, ⟨_, SqL.of hLv⟩, for_lst (xs := xs) (fun k σ' H' => ∃ o7 o8 o9 o10 : Option V, σ' = [some (.ref bk), some (.str ⟨t.toArray⟩), some (.str ⟨o.toArray⟩), some (.ref D), some (.int (Tt : Int)), some (.int (pl : Int)), some (.int (aa : Int)), o7, o8, o9, o10, none] ∧
              DP H D t.length o.length (fun p c => CA b t o Tt pl p c ∨ CE b t o pl aa v0 k p c) H' ∧ H' L = some (.lst xs) ∧ Al rEd H' xs (alle b)) ⟨_, _, _, _, rfl, DP.congr ⟨kvs, f5, hD5, hK, hR⟩ fun p c => ⟨.inl, fun h => h.elim id fun ⟨_, z, _⟩ => (nomatch z)⟩, hLv, all⟩ (fun k σ' H' _ ⟨_, _, _, _, _, _, h, _⟩ => h) ?_ ?_⟩
            · clear all hLv hD5 f5
              rintro k xv σ' H6 hx ⟨o7, o8, o9, o10, rfl, d6, hLv, all⟩
              obtain ⟨e, he, her⟩ := all.get hx
              have hem := List.mem_of_getElem? he
              obtain ⟨u2, y1, y2, y3, rfl, hu3, rfl, rfl, rfl⟩ := id her
              have hel : e.1.length ≤ 500 ∧ e.2.1.length ≤ 500 := by
                have := hem
                unfold alle at this
                rcases List.mem_append.mp this with h | h
                · exact hlen e h
                · obtain ⟨x, _, rfl⟩ := List.mem_map.mp h
                  exact ⟨by show 1 ≤ 500; omega, by show 1 ≤ 500; omega⟩
              have cl : ((t.drop pl).take e.1.length = e.1 ∧ (o.drop aa).take e.2.1.length = e.2.1) → ∀ p c, (CA b t o Tt pl p c ∨ CE b t o pl aa v0 k p c) ∨ (p = (pl + e.1.length, aa + e.2.1.length) ∧ c = v0 + e.2.2) ↔ CA b t o Tt pl p c ∨ CE b t o pl aa v0 (k + 1) p c := fun hm p c => by
                unfold CE
                rw [List.take_add_one, he]
                constructor
                · rintro ((h | ⟨e', a1, a2⟩) | h)
                  · exact .inl h
                  · exact .inr ⟨e', List.mem_append_left _ a1, a2⟩
                  · exact .inr ⟨e, List.mem_append_right _ List.mem_cons_self, hm.1, hm.2, h⟩
                · rintro (h | ⟨e', a1, a2, a3, a4⟩)
                  · exact .inl (.inl h)
                  · rcases List.mem_append.mp a1 with a1 | a1
                    · exact .inl (.inr ⟨e', a1, a2, a3, a4⟩)
                    · have := List.mem_singleton.mp a1
                      subst this
                      exact .inr a4
              have cl0 : ¬ ((t.drop pl).take e.1.length = e.1 ∧ (o.drop aa).take e.2.1.length = e.2.1) → ∀ p c, (CA b t o Tt pl p c ∨ CE b t o pl aa v0 k p c) ↔ CA b t o Tt pl p c ∨ CE b t o pl aa v0 (k + 1) p c := fun hm p c => by
                unfold CE
                rw [List.take_add_one, he]
                refine or_congr Iff.rfl ⟨fun ⟨e', a1, a2⟩ => ⟨e', List.mem_append_left _ a1, a2⟩, fun ⟨e', a1, a2, a3, a4⟩ => ?_⟩
                rcases List.mem_append.mp a1 with a1 | a1
                · exact ⟨e', a1, a2, a3, a4⟩
                · have := List.mem_singleton.mp a1
                  subst this
                  exact absurd ⟨a2, a3⟩ hm
              have lr : ((⟨e.1.toArray⟩ : Str).length : Nat) = e.1.length := slen _
              have lw : ((⟨e.2.1.toArray⟩ : Str).length : Nat) = e.2.1.length := slen _
              refine ⟨u2, _, rfl, SqT.of hu3, rfl, _, _, rfl, _, _, rfl, _, _, rfl, rfl, ?_⟩
              refine ⟨_, rfl, _, rfl, _, rfl, by rw [slen, sizeLine_eq]; omega, _, _, rfl, rfl, _, rfl, _, rfl, _, rfl, by rw [slen, sizeLine_eq]; omega, _, _, rfl, rfl, by show 2 ≤ sizeLine; decide, fun U5 hU5 => ?_⟩
              rw [lr, lw]
              have gU5 := Fe.new (o := .tup [.int ((pl : Int) + (e.1.length : Int)), .int ((aa : Int) + (e.2.1.length : Int))]) hU5
              have d7 := d6.fe gU5
              have hLv7 := gU5.k hLv
              have all7 : Al rEd _ xs (alle b) := Al.mo gU5 all
              have hU5v : (upd H6 U5 (.tup [.int ((pl : Int) + (e.1.length : Int)), .int ((aa : Int) + (e.2.1.length : Int))])) U5 = some (.tup [vN (pl + e.1.length), vN (aa + e.2.1.length)]) := upd_same
              have u27 := gU5.k hu3
              generalize upd H6 U5 (.tup [.int ((pl : Int) + (e.1.length : Int)), .int ((aa : Int) + (e.2.1.length : Int))]) = H7 at d7 hLv7 all7 hU5v u27 ⊢
              have no : ¬ ((t.drop pl).take e.1.length = e.1 ∧ (o.drop aa).take e.2.1.length = e.2.1) → ∀ s8 s9 s10 s11 : Option V, ∃ o7 o8 o9 o10 : Option V, [some (.ref bk), some (.str ⟨t.toArray⟩), some (.str ⟨o.toArray⟩), some (.ref D), some (.int (Tt : Int)), some (.int (pl : Int)), some (.int (aa : Int)), s8, s9, s10, s11, none] = [some (.ref bk), some (.str ⟨t.toArray⟩), some (.str ⟨o.toArray⟩), some (.ref D), some (.int (Tt : Int)), some (.int (pl : Int)), some (.int (aa : Int)), o7, o8, o9, o10, none] ∧
                  DP H D t.length o.length (fun p c => CA b t o Tt pl p c ∨ CE b t o pl aa v0 (k + 1) p c) H7 ∧ H7 L = some (.lst xs) ∧ Al rEd H7 xs (alle b) := fun hn s8 s9 s10 s11 => ⟨_, _, _, _, rfl, d7.congr (cl0 hn), hLv7, all7⟩
              refine ⟨_, rfl, _, rfl, _, rfl, _, rfl, U5, _, _, _, rfl, rfl, SqT.of hU5v, atI_nat (j := 0) rfl, _, rfl, _, rfl, by rw [slen, sizeLine_eq]; omega, _, rfl, rfl, _, rfl, ?_⟩
              have ec1 : cutS ⟨t.toArray⟩ (some (pl : Int)) (some ((pl + e.1.length : Nat) : Int)) = ⟨((t.drop pl).take e.1.length).toArray⟩ := by
                rw [Int.natCast_add]; exact cut_mid t pl _ hplt
              rw [ec1]
              by_cases hm1 : (t.drop pl).take e.1.length = e.1
              · rw [decide_eq_true (by rw [hm1])]
                refine iteT ?_
                refine ⟨_, rfl, _, rfl, _, rfl, _, rfl, U5, _, _, _, rfl, rfl, SqT.of hU5v, atI_nat (j := 1) rfl, _, rfl, _, rfl, by rw [slen, sizeLine_eq]; omega, _, rfl, rfl, _, rfl, ?_⟩
                have ec2 : cutS ⟨o.toArray⟩ (some (aa : Int)) (some ((aa + e.2.1.length : Nat) : Int)) = ⟨((o.drop aa).take e.2.1.length).toArray⟩ := by
                  rw [Int.natCast_add]; exact cut_mid o aa _ hao
                rw [ec2]
                by_cases hm2 : (o.drop aa).take e.2.1.length = e.2.1
                · rw [decide_eq_true (by rw [hm2])]
                  refine iteT ?_
                  have hmm := cl ⟨hm1, hm2⟩
                  obtain ⟨kvs7, f7, hD7, hK7, hR7⟩ := d7
                  have hU5k : H7 U5 = some (.tup ((kIJ (pl + e.1.length, aa + e.2.1.length)).map kV)) := hU5v
                  obtain ⟨on, hvn, hLn2⟩ := hR7 (pl + e.1.length, aa + e.2.1.length)
                  have hhere : valV kvs7 (kIJ (pl, aa)) = some (vN v0) := by
                    obtain ⟨o1, h1, h2⟩ := hR7 (pl, aa)
                    have : o1 = some v0 := h2.uniq (Least.congr (fun c => ⟨.inl, fun h => h.elim id fun ⟨e', a1, a2, a3, a4, a5⟩ => by
                      have := alle_ne hne (r := e'.1) (w := e'.2.1) (d := e'.2.2) (List.mem_of_mem_take a1)
                      injection a4 with a4 a6
                      omega⟩) hL)
                    rw [h1, this]; rfl
                  have i1 := take_le hm1 hplt
                  have i2 := take_le hm2 hao
                  have hpe : ∀ s8 s9 s10 s11 : Option V, Bet on (v0 + e.2.2) → ∀ H8, Fe H7 H8 → ∃ o7 o8 o9 o10 : Option V, [some (.ref bk), some (.str ⟨t.toArray⟩), some (.str ⟨o.toArray⟩), some (.ref D), some (.int (Tt : Int)), some (.int (pl : Int)), some (.int (aa : Int)), s8, s9, s10, s11, none] = [some (.ref bk), some (.str ⟨t.toArray⟩), some (.str ⟨o.toArray⟩), some (.ref D), some (.int (Tt : Int)), some (.int (pl : Int)), some (.int (aa : Int)), o7, o8, o9, o10, none] ∧
                      DP H D t.length o.length (fun p c => CA b t o Tt pl p c ∨ CE b t o pl aa v0 (k + 1) p c) (upd H8 D (.dT (putK kvs7 (kIJ (pl + e.1.length, aa + e.2.1.length)) (vN (v0 + e.2.2))))) ∧ (upd H8 D (.dT (putK kvs7 (kIJ (pl + e.1.length, aa + e.2.1.length)) (vN (v0 + e.2.2))))) L = some (.lst xs) ∧ Al rEd (upd H8 D (.dT (putK kvs7 (kIJ (pl + e.1.length, aa + e.2.1.length)) (vN (v0 + e.2.2))))) xs (alle b) := fun s8 s9 s10 s11 hb H8 g8 => by
                    have fD : Fx [D] H8 (upd H8 D (.dT (putK kvs7 (kIJ (pl + e.1.length, aa + e.2.1.length)) (vN (v0 + e.2.2))))) := Fx.put (g8.k hD7) (List.mem_singleton.mpr rfl) (fun _ z => nomatch z)
                    exact ⟨_, _, _, _, rfl, DP.congr ⟨_, (f7.trans g8).mut hD, upd_same, hK7.put i1 i2 _, hR7.put hvn hLn2 hb⟩ hmm, (upd_ne hLD).trans (g8.k hLv7), Al.mo fD (Al.mo g8 all7)⟩
                  refine ⟨_, rfl, _, rfl, D, _, rfl, DGet.t hD7 hU5k, _, rfl, ?_⟩
                  rw [hvn]
                  cases on with
                  | none =>
                    refine iteT (iteT ?_)
                    refine ⟨_, rfl, _, rfl, _, rfl, by show 2 ≤ sizeLine; decide, fun U7 hU7 => ?_⟩
                    have gU7 := Fe.new (o := .tup [.int (pl : Int), .int (aa : Int)]) hU7
                    have dg7 : DGet (upd H7 U7 (.tup [.int (pl : Int), .int (aa : Int)])) D (.ref U7) (some (vN v0)) := by
                      have := DGet.t (k := kIJ (pl, aa)) (gU7.k hD7) (b := U7) upd_same
                      rw [hhere] at this; exact this
                    refine ⟨D, vN v0, rfl, dg7, _, rfl, _, _, rfl, rfl, _, rfl, _, rfl, D, _, rfl, DPut.t (gU7.k hD7) (gU7.k hU5k) (hsz _ hK7), ?_⟩
                    exact hpe _ _ _ _ bet_none _ gU7
                  | some e0 =>
                    refine iteF ?_
                    refine ⟨_, rfl, _, rfl, D, vN e0, rfl, by rw [show (vN e0 : V) = vN e0 from rfl]; have := DGet.t (k := kIJ (pl + e.1.length, aa + e.2.1.length)) hD7 hU5k; rw [hvn] at this; exact this, _, rfl, _, rfl, _, rfl, by show 2 ≤ sizeLine; decide, fun U6 hU6 => ?_⟩
                    have gU6 := Fe.new (o := .tup [.int (pl : Int), .int (aa : Int)]) hU6
                    have dg6 : DGet (upd H7 U6 (.tup [.int (pl : Int), .int (aa : Int)])) D (.ref U6) (some (vN v0)) := by
                      have := DGet.t (k := kIJ (pl, aa)) (gU6.k hD7) (b := U6) upd_same
                      rw [hhere] at this; exact this
                    refine ⟨D, vN v0, rfl, dg6, _, rfl, _, _, rfl, rfl, _, _, rfl, rfl, _, rfl, ?_⟩
                    by_cases hb : v0 + e.2.2 < e0
                    · rw [decide_eq_true (by omega)]
                      refine iteT ?_
                      refine ⟨_, rfl, _, rfl, _, rfl, by show 2 ≤ sizeLine; decide, fun U7 hU7 => ?_⟩
                      have gU7 := gU6.trans (Fe.new (o := .tup [.int (pl : Int), .int (aa : Int)]) hU7)
                      have dg7 : DGet (upd (upd H7 U6 (.tup [.int (pl : Int), .int (aa : Int)])) U7 (.tup [.int (pl : Int), .int (aa : Int)])) D (.ref U7) (some (vN v0)) := by
                        have := DGet.t (k := kIJ (pl, aa)) (gU7.k hD7) (b := U7) upd_same
                        rw [hhere] at this; exact this
                      refine ⟨D, vN v0, rfl, dg7, _, rfl, _, _, rfl, rfl, _, rfl, _, rfl, D, _, rfl, DPut.t (gU7.k hD7) (gU7.k hU5k) (hsz _ hK7), ?_⟩
                      exact hpe _ _ _ _ (bet_some.mpr hb) _ gU7
                    · rw [decide_eq_false (by omega)]
                      exact iteF ⟨_, _, _, _, rfl, DP.congr ⟨kvs7, f7.trans gU6, gU6.k hD7, hK7, hR7.keep hLn2 (fun z => hb (bet_some.mp z))⟩ hmm, gU6.k hLv7, Al.mo gU6 all7⟩
                · rw [decide_eq_false (fun z => hm2 (by injection z with z; injection z with z; have := congrArg Array.toList z; simpa using this))]
                  exact iteF (no (fun z => hm2 z.2) _ _ _ _)
              · rw [decide_eq_false (fun z => hm1 (by injection z with z; injection z with z; have := congrArg Array.toList z; simpa using this))]
                exact iteF (iteF (no (fun z => hm1 z.1) _ _ _ _))
            · rintro σ' H6 ⟨o7, o8, o9, o10, rfl, d6, hLv, all⟩
              rw [hxl, show CE b t o pl aa v0 (alle b).length = CEa b t o pl aa v0 from funext fun p => funext fun c => by unfold CE CEa; rw [List.take_length]] at d6
              obtain ⟨kvs6, f6, hD6, hK6, hR6⟩ := d6
              refine ⟨_, _, _, _, _, _, rfl, kvs6, f6, hD6, hK6, hR6.imp (fun p c h => ?_) (fun p c h => ?_)⟩
              · rcases h with h | ⟨e, h1, h2, h3, h4, h5⟩
                · rcases h with h | ⟨i, j, c0, d, r, w, h1, h2, h3⟩
                  · exact .inl h
                  · exact .inr ⟨i, j, c0, d, r, w, h1, by omega, h3⟩
                · exact .inr ⟨pl, aa, v0, e.2.2, e.1, e.2.1, (hFw v0).mp hL.1, .inr ⟨haa, Nat.lt_succ_self pl⟩, h1, h2, h3, h4, h5⟩
              · rcases h with h | ⟨i, j, c0, dd, r, w, h1, h2, h3, h4, h5, h6, h7⟩
                · exact ⟨c, .inl (.inl h), Nat.le_refl _⟩
                · by_cases q : i + j < Tt ∨ (i + j = Tt ∧ i < pl)
                  · exact ⟨c, .inl (.inr ⟨i, j, c0, dd, r, w, h1, q, h3, h4, h5, h6, h7⟩), Nat.le_refl _⟩
                  · have e1 : i = pl := by omega
                    have e2 : j = aa := by omega
                    subst e1 e2
                    have := hL.2 c0 ((hFw c0).mpr h1)
                    exact ⟨v0 + dd, .inr ⟨(r, w, dd), h3, h4, h5, h6, rfl⟩, by omega⟩
      · rintro σ' H2 ⟨o5, o6, o7, o8, o9, o10, rfl, d⟩
        refine ⟨_, _, _, _, _, _, _, rfl, d.congr fun p c => ⟨fun h => ?_, fun h => ?_⟩⟩
        · rcases h with h | ⟨i, j, c0, d, r, w, h1, h2, h3⟩
          · exact .inl h
          · exact .inr ⟨i, j, c0, d, r, w, h1, .inl (by omega), h3⟩
        · rcases h with h | ⟨i, j, c0, d, r, w, h1, h2, h3⟩
          · exact .inl h
          · have := fw_le h1
            exact .inr ⟨i, j, c0, d, r, w, h1, by omega, h3⟩
    · rintro σ' H1 ⟨o4, o5, o6, o7, o8, o9, o10, rfl, d⟩
      obtain ⟨kvs, f, hDv, hK, hR⟩ := d
      refine ⟨_, rfl, D, rfl, .inr ⟨kvs, .inl hDv⟩, _, rfl, _, rfl, by rw [slen, sizeLine_eq]; omega, _, rfl, _, rfl, by rw [slen, sizeLine_eq]; omega, by show 2 ≤ sizeLine; decide, fun U hU => ?_⟩
      rw [slen, slen]
      have gU := Fe.new (o := .tup [.int (t.length : Int), .int (o.length : Int)]) hU
      refine ⟨_, DGet.t (k := kIJ (t.length, o.length)) (gU.k hDv) upd_same, ?_⟩
      obtain ⟨ov, h1, h2⟩ := hR (t.length, o.length)
      have e : ov = least (Dst b t o 0 0) := by
        rw [h2.eq]
        refine least_congr fun c => ?_
        rw [← fw_end]
        exact ⟨ca_fw, fun h => fw_ca hne h (by omega)⟩
      rw [h1, e]
      have : ((least (Dst b t o 0 0)).map vN).getD V.non = oV (least (Dst b t o 0 0)) := by cases least (Dst b t o 0 0) <;> rfl
      rw [this]
      exact kk _ (f.trans gU)
end
end Fm
/-! _law_words_hold -/
namespace Fm
open PySem L2
theorem tr_fw {b : Book} {t u : List Nat} {c : Nat} (h : Tr b t u c) : ∀ t2 u2, Fw b (t ++ t2) (u ++ u2) t.length u.length c := by
  induction h with
  | nil => exact fun _ _ => .beg
  | @snoc t u r w c d h1 h2 ih =>
    intro t2 u2
    have := ih (r ++ t2) (w ++ u2)
    rw [List.length_append, List.length_append, List.append_assoc, List.append_assoc]
    refine .step this h2 ?_ ?_
    · rw [List.drop_left, List.take_left]
    · rw [List.drop_left, List.take_left]
theorem tr_dst {b : Book} {t u : List Nat} {c : Nat} (h : Tr b t u c) : Dst b t u 0 0 c := by
  have := tr_fw h [] []
  rw [List.append_nil, List.append_nil] at this
  exact fw_end.mp this
theorem lead_split {E : Nat → Nat → Nat → Prop} : ∀ {u w : List Nat} {q p : Nat}, Lead E (u ++ w) q p → ∃ r, Lead E u q r ∧ Lead E w r p
  | [], _, q, _, h => ⟨q, rfl, h⟩
  | _ :: _, _, _, _, ⟨r, h1, h2⟩ => by
    obtain ⟨r2, h3, h4⟩ := lead_split h2
    exact ⟨r2, ⟨r, h1, h3⟩, h4⟩
theorem tr_rs {b : Book} {m : Mach} {t u : List Nat} {c : Nat} (h : Tr b t u c) : ∀ q, Lead (Em m) u 0 q → Rs b m t (q, []) c := by
  induction h with
  | nil =>
    intro q h
    have : q = 0 := by cases h; rfl
    subst this
    exact .beg
  | @snoc t u r w c d h1 h2 ih =>
    intro q h
    obtain ⟨q1, h3, h4⟩ := lead_split h
    have h5 := ih q1 h3
    by_cases hr : r = []
    · subst hr
      rw [List.append_nil]
      rcases ops_cases (b := b) (m := m) ⟨w, h2, h4⟩ with ⟨x, e, _⟩ | ⟨w2, h6, h7⟩
      · cases e
      · exact .sil h5 ⟨rfl, rfl, w2, h6, h7⟩
    · have := rs_begin (a := r) (r := []) (d := d) (p := q) hr h5 ⟨w, by rw [List.append_nil]; exact h2, h4⟩
      exact this
theorem cutV_1 {xs : List V} (h : xs ≠ []) : cutV xs (some 1) none = xs.drop 1 ∧ ¬ (HT.sIx xs.length 0 (some 1) = 0 ∧ HT.sIx xs.length xs.length none = xs.length) := by
  have hl := List.length_pos_iff.mpr h
  have e : HT.sIx xs.length 0 (some 1) = 1 := by
    have := HT.sIx_nat xs.length 0 1
    rw [show ((1 : Nat) : Int) = (1 : Int) from rfl] at this
    rw [this]; omega
  refine ⟨?_, fun z => by rw [e] at z; omega⟩
  unfold cutV
  rw [e, HT.sIx_none]
  exact List.take_of_length_le (by rw [List.length_drop]; exact Nat.le_refl _)
def tupAt (H : Hp) : V → List V
  | V.ref a => (match H a with
    | some (HO.tup xs) => xs
    | _ => [])
  | _ => []
theorem tupAt_of {H : Hp} {a : Addr} {xs : List V} (h : H a = some (.tup xs)) : tupAt H (.ref a) = xs := by
  show (match H a with | some (HO.tup xs) => xs | _ => []) = _
  rw [h]
def bkLen (σ : L2.St) (H : Hp) : Nat := (tupAt H ((tupAt H ((σ[5]?.getD none).getD V.non)).getD 1 V.non)).length
theorem bkLen_at {σ : L2.St} {H : Hp} {v : V} {b : Book} (h : rBook H v b) (hs : σ[5]? = some (some v)) : bkLen σ H = b.2.length := by
  obtain ⟨ba, bx, by_, rfl, hba, rfl, ⟨ea, exs, rfl, hea, hal⟩⟩ := id h
  unfold bkLen
  rw [hs]
  show (tupAt H ((tupAt H (.ref ba)).getD 1 V.non)).length = _
  rw [tupAt_of hba]
  show (tupAt H (.ref ea)).length = _
  rw [tupAt_of hea]
  exact hal.len
structure BkI (ls : List Nat) (es : List (List Nat × List Nat × Nat)) : Prop where
  ok : BOk (ls, es)
  ne : BNe (ls, es)
  few : es.length ≤ 9
theorem BkI.rsb {ls : List Nat} {es : List (List Nat × List Nat × Nat)} (h : BkI ls es) : RsB (ls, es) := rsb_30 h.ok (by have := h.few; show es.length ≤ 30; omega)
theorem BkI.drop {ls : List Nat} {es : List (List Nat × List Nat × Nat)} (h : BkI ls es) : BkI ls (es.drop 1) where
  ok := ⟨by have := h.few; show (es.drop 1).length ≤ 60; rw [List.length_drop]; omega, fun e he => h.ok.len e (List.mem_of_mem_drop he), fun e he => h.ok.len2 e (List.mem_of_mem_drop he), fun e he => h.ok.lets e (List.mem_of_mem_drop he), h.ok.fewL⟩
  ne := fun e he => h.ne e (List.mem_of_mem_drop he)
  few := by have := h.few; rw [List.length_drop]; omega
section
variable {P : Program} {w : World} {K : PySem.W.Frag} {g : Str → Option Value} {base : Heap}
def spWordsHold : Sp := fun vs H Q _ => ∃ (p g : Addr), vs = [.ref p] ∧ Pl H p g ∧ ∀ H', Fx [p, g] H H' → Pl H' p g → Q (.bl true) H'
theorem ok_law_words_hold (T : Txt K g) : FnOk P w K g base CX0 9 T.d_law_words_hold.f T.d_law_words_hold.fd P_law_words_hold spWordsHold := by
  refine T.d_law_words_hold.F.ok sc_law_words_hold (fun vs H Q E h => ?_) (fun cdv A outer s H vs Q E hr h => ?_)
  · obtain ⟨_, _, rfl, _⟩ := h
    rfl
  · obtain ⟨p, g, rfl, hP, kk⟩ := h
    have hu := hu_of hr
    refine ⟨_, (pss_cons (ps_set (i := 1) sc_law_words_hold.nd rfl (by first | exact Or.inl rfl | exact Or.inr rfl) (pe_call (ok_law_letters T) (hr.mono (by decide)) rfl T.d_law_letters.mg T.d_law_letters.kp T.d_law_letters.b .nil pass0 (pa_cons (pv 0) (pa_cons (pe_op op_add pe_int (pe_call (ok_law_draw T) (hr.mono (by decide)) rfl T.d_law_draw.mg T.d_law_draw.kp T.d_law_draw.b .nil pass0 (pa_cons (pv 0) (pa_cons pe_int pa_nil)))) pa_nil))))
    (pss_cons (ps_setLc (i := 2) (own := [("k", 11)]) rfl sc_law_words_hold.nd rfl rfl (sw_true rfl rfl rfl (by decide +kernel)) (pi_range1 rfl T.z_range (pa_cons (pe_op op_add pe_int (pe_call (ok_law_draw T) (hr.mono (by decide)) rfl T.d_law_draw.mg T.d_law_draw.kp T.d_law_draw.b .nil pass0 (pa_cons (pv 0) (pa_cons pe_int pa_nil)))) pa_nil)) (blkOk_by (N := N_law_words_hold) (sc := defScope s_law_words_hold) (by decide +kernel)) (fun _ _ _ _ _ => by exact (pg_name (i := 11) sc_law_words_hold.nd rfl (by first | exact Or.inl rfl | exact Or.inr rfl))) (fun _ _ _ _ _ => by exact pts_nil) (fun _ _ _ _ _ => by exact (pe_call (ok_law_word T) (hr.mono (by decide)) rfl T.d_law_word.mg T.d_law_word.kp T.d_law_word.b .nil pass0 (pa_cons (pv 0) (pa_cons (pv 1) (pa_cons pe_int (pa_cons pe_int pa_nil)))))))
    (pss_cons (ps_set (i := 3) sc_law_words_hold.nd rfl (by first | exact Or.inl rfl | exact Or.inr rfl) (pe_cmpR op_eq (pe_call (ok_law_draw T) (hr.mono (by decide)) rfl T.d_law_draw.mg T.d_law_draw.kp T.d_law_draw.b .nil pass0 (pa_cons (pv 0) (pa_cons pe_int pa_nil))) pe_int (nomark _)))
    (pss_cons (ps_set (i := 4) sc_law_words_hold.nd rfl (by first | exact Or.inl rfl | exact Or.inr rfl) (pe_call (ok_law_tree T) (hr.mono (by decide)) rfl T.d_law_tree.mg T.d_law_tree.kp T.d_law_tree.b .nil pass0 (pa_cons (pv 2) (pa_cons (pv 3) pa_nil))))
    (pss_cons (ps_set (i := 5) sc_law_words_hold.nd rfl (by first | exact Or.inl rfl | exact Or.inr rfl) (pe_call (ok_law_book T) (hr.mono (by decide)) rfl T.d_law_book.mg T.d_law_book.kp T.d_law_book.b .nil pass0 (pa_cons (pv 0) (pa_cons (pv 1) (pa_cons (pv 2) (pa_cons (pe_op op_add pe_int (pe_call (ok_law_draw T) (hr.mono (by decide)) rfl T.d_law_draw.mg T.d_law_draw.kp T.d_law_draw.b .nil pass0 (pa_cons (pv 0) (pa_cons pe_int pa_nil)))) pa_nil))))))
    (pss_cons (ps_while PassesOwn.never (pt_cmpR op_gt (pe_op op_mul (pe_ix (kx_tup (K := K) rfl) (pv 4) pe_int (fun _ _ => rfl)) (pe_callB (kc_len (K := K) rfl) (by rfl) T.z_len PySem.boot_len (pa_cons (pe_call (ok_law_rests T) (hr.mono (by decide)) rfl T.d_law_rests.mg T.d_law_rests.kp T.d_law_rests.b .nil pass0 (pa_cons (pv 5) pa_nil)) pa_nil))) pe_int (nomark _))
      (pss_one (ps_set (i := 5) sc_law_words_hold.nd rfl (by first | exact Or.inl rfl | exact Or.inr rfl) (pe_tup (pa_cons (pv 1) (pa_cons (pe_slice (kl_tup (K := K) rfl) (pe_ix (kx_tup (K := K) rfl) (pv 5) pe_int (fun _ _ => rfl)) (po_some pe_int) po_none) pa_nil))))))
    (pss_cons (ps_set (i := 6) sc_law_words_hold.nd rfl (by first | exact Or.inl rfl | exact Or.inr rfl) (pe_ix (kx_list (K := K) rfl) (pv 2) (pe_call (ok_law_draw T) (hr.mono (by decide)) rfl T.d_law_draw.mg T.d_law_draw.kp T.d_law_draw.b .nil pass0 (pa_cons (pv 0) (pa_cons (pe_callB (kc_len (K := K) rfl) (by rfl) T.z_len PySem.boot_len (pa_cons (pv 2) pa_nil)) pa_nil))) (fun _ _ => rfl)))
    (pss_cons (ps_asg (pe_call (ok_law_spoilt T) (hr.mono (by decide)) rfl T.d_law_spoilt.mg T.d_law_spoilt.kp T.d_law_spoilt.b .nil pass0 (pa_cons (pv 0) (pa_cons (pv 5) (pa_cons (pv 6) pa_nil)))) (kg_unl (K := K) 2 rfl rfl (pgs_cons (pg_name (i := 7) sc_law_words_hold.nd rfl (by first | exact Or.inl rfl | exact Or.inr rfl)) (pgs_cons (pg_name (i := 8) sc_law_words_hold.nd rfl (by first | exact Or.inl rfl | exact Or.inr rfl)) pgs_nil))))
    (pss_cons (ps_set (i := 9) sc_law_words_hold.nd rfl (by first | exact Or.inl rfl | exact Or.inr rfl) (pe_call (ok_distance_of T) (hr.mono (by decide)) rfl T.d_distance_of.mg T.d_distance_of.kp T.d_distance_of.b .nil pass0 (pa_cons (pv 5) (pa_cons (pv 7) (pa_cons (pv 6) pa_nil)))))
    (pss_cons (ps_if (PW.pt (pw_or (pt_not (pt_val (pe_call (same_all T) (hr.mono (by decide)) rfl T.d_law_same.mg T.d_law_same.kp T.d_law_same.b .nil pass0 (pa_cons (pv 9) (pa_cons (pe_call (ok_law_table T) (hr.mono (by decide)) rfl T.d_law_table.mg T.d_law_table.kp T.d_law_table.b .nil pass0 (pa_cons (pv 5) (pa_cons (pv 7) (pa_cons (pv 6) pa_nil)))) pa_nil))))) (pw_or1 (pt_cmpR op_gt (pv 9) (pv 8) (nomark _)))))
      (pss_one (ps_ret pe_bl))
      pss_nil)
    (pss_cons (ps_set (i := 9) sc_law_words_hold.nd rfl (by first | exact Or.inl rfl | exact Or.inr rfl) (pe_call (ok_mend_distance T) (hr.mono (by decide)) rfl T.d_mend_distance.mg T.d_mend_distance.kp T.d_mend_distance.b .nil pass0 (pa_cons (pv 5) (pa_cons (pv 4) (pa_cons (pv 7) pa_nil)))))
    (pss_cons (ps_if (PW.pt (pw_or (pt_not (pt_val (pe_callB call_isi (by rfl) T.z_isinstance (by decide +kernel) (pa_cons (pv 9) (pa_cons (pe_bltn (v := .ty "int") (by rfl) T.z_int (by decide +kernel) rfl) pa_nil))))) (pw_or (pt_val (pe_callB call_isi (by rfl) T.z_isinstance (by decide +kernel) (pa_cons (pv 9) (pa_cons (pe_bltn (v := .ty "bool") (by rfl) T.z_bool (by decide +kernel) rfl) pa_nil)))) (pw_or1 (pt_cmpR op_gt (pv 9) (pv 8) (nomark _))))))
      (pss_one (ps_ret pe_bl))
      pss_nil)
    (pss_cons (ps_if (pt_val (pv 3))
      (pss_one (ps_set (i := 7) sc_law_words_hold.nd rfl (by first | exact Or.inl rfl | exact Or.inr rfl) (pe_op op_add_str (pv 7) (pe_ix (kx_list (K := K) rfl) (pe_call (ok_law_spoilt T) (hr.mono (by decide)) rfl T.d_law_spoilt.mg T.d_law_spoilt.kp T.d_law_spoilt.b .nil pass0 (pa_cons (pv 0) (pa_cons (pv 5) (pa_cons (pe_ix (kx_list (K := K) rfl) (pv 2) pe_int (fun _ _ => rfl)) pa_nil)))) pe_int (fun _ _ => rfl)))))
      pss_nil)
    (pss_cons (ps_for PassesOwn.never rfl (ki_tup (K := K) rfl (pe_tup (pa_cons (pv 7) (pa_cons (pe_slice sl_str (pv 7) po_none (po_some (pe_call (ok_law_draw T) (hr.mono (by decide)) rfl T.d_law_draw.mg T.d_law_draw.kp T.d_law_draw.b .nil pass0 (pa_cons (pv 0) (pa_cons (pe_op op_add (pe_callB kc_lenS (by rfl) T.z_len PySem.boot_len (pa_cons (pv 7) pa_nil)) pe_int) pa_nil))))) (pa_cons (pe_call (ok_law_word T) (hr.mono (by decide)) rfl T.d_law_word.mg T.d_law_word.kp T.d_law_word.b .nil pass0 (pa_cons (pv 0) (pa_cons (pv 1) (pa_cons pe_int (pa_cons pe_int pa_nil))))) pa_nil))))) (pg_name (i := 10) sc_law_words_hold.nd rfl (by first | exact Or.inl rfl | exact Or.inr rfl))
      (pss_one (ps_if (pt_not (pt_val (pe_call (ok_law_asked T) (hr.mono (by decide)) rfl T.d_law_asked.mg T.d_law_asked.kp T.d_law_asked.b .nil pass0 (pa_cons (pv 5) (pa_cons (pv 4) (pa_cons (pv 10) pa_nil))))))
        (pss_one (ps_ret pe_bl))
        pss_nil)))
    (pss_one (ps_ret (pe_call (same_all T) (hr.mono (by decide)) rfl T.d_law_same.mg T.d_law_same.kp T.d_law_same.b .nil pass0 (pa_cons (pe_call (ok_distance_of T) (hr.mono (by decide)) rfl T.d_distance_of.mg T.d_distance_of.kp T.d_distance_of.b .nil pass0 (pa_cons (pv 5) (pa_cons (pv 7) (pa_cons (pe_ix (kx_list (K := K) rfl) (pv 2) pe_int (fun _ _ => rfl)) pa_nil)))) (pa_cons (pe_call (ok_law_table T) (hr.mono (by decide)) rfl T.d_law_table.mg T.d_law_table.kp T.d_law_table.b .nil pass0 (pa_cons (pv 5) (pa_cons (pv 7) (pa_cons (pe_ix (kx_list (K := K) rfl) (pv 2) pe_int (fun _ _ => rfl)) pa_nil)))) pa_nil))))))))))))))))))), ?_⟩
    refine ⟨_, rfl, _, rfl, p, g, 3, rfl, hP, by omega, by omega, fun r1 H1 f1 P1 hr1 => ⟨_, _, rfl, rfl, p, g, 4 + r1, congrArg (fun z => [V.ref p, V.int z]) (show ((4 : Int) + (r1 : Int)) = ((4 + r1 : Nat) : Int) by omega), P1, by omega, fun ls H2 f2 P2 hnd hll => ?_⟩⟩
    have f02 := f1.trans f2
    have hls : ls ≠ [] := fun z => by rw [z] at hll; have : ([] : List Nat).length = 0 := rfl; omega
    refine ⟨_, rfl, p, g, 4, rfl, P2, by omega, by omega, fun r2 H3 f3 P3 hr2 => ⟨_, _, rfl, rfl, _, rfl, by omega, by omega, fun W hW => ?_⟩⟩
    have hcn : ((2 : Int) + (r2 : Int)).toNat = 2 + r2 := by omega
    rw [hcn]
    have nW := P3.nw hW
    have f03 := f02.trans f3
    have hWn : H W = none := f03.fr nW hW
    refine lc_range (fun i H' => ∃ l : List (List Nat), Fx [p, g] H H' ∧ Pl H' p g ∧ H' W = some (.lst (l.map fun w => V.str (tS w))) ∧ (∀ w ∈ l, 2 ≤ w.length ∧ w.length ≤ 6 ∧ ∀ x ∈ w, x ∈ ls) ∧ l.length = i) ⟨[], f03.mu hWn, P3.put nW, upd_same, (fun _ z => nomatch z), rfl⟩ ?_ ?_
    · rintro i H4 hi ⟨l, f4, P4, hW4, hwl, hli⟩
      refine ⟨rfl, ?_⟩
      refine iteT (B := ∃ l : List (List Nat), Fx [p, g] H H4 ∧ Pl H4 p g ∧ H4 W = some (.lst (l.map fun w => V.str (tS w))) ∧ (∀ w ∈ l, 2 ≤ w.length ∧ w.length ≤ 6 ∧ ∀ x ∈ w, x ∈ ls) ∧ l.length = i + 1) ?_
      refine ⟨_, rfl, _, rfl, p, g, ls, 2, 6, rfl, P4, hls, by omega, by decide, by decide, fun t H5 f5 P5 ht h2 h6 => ?_⟩
      have hW5 := f5.keep _ _ nW hW4
      refine ⟨_, hW5, by rw [List.length_map, sizeLine_eq]; omega, l ++ [t], (f4.trans f5).mu hWn, P5.put nW, by rw [upd_same, List.map_append]; rfl, fun w hw => ?_, by rw [List.length_append, List.length_singleton, hli]⟩
      rcases List.mem_append.mp hw with h | h
      · exact hwl w h
      · rw [List.mem_singleton.mp h]; exact ⟨h2, h6, ht⟩
    · rintro H4 ⟨words, f4, P4, hW4, hwl, hli⟩
      have hlen5 : words.length ≤ 5 := by omega
      have hw0 : words ≠ [] := fun z => by rw [z] at hli; have : ([] : List (List Nat)).length = 0 := rfl; omega
      have alw : ∀ H' : Hp, Al rS H' (words.map fun w => V.str (tS w)) words := fun H' => by
        generalize words = l
        induction l with
        | nil => exact .nil
        | cons x l ih => exact .cons rfl ih
      have hsum : (words.map List.length).sum ≤ 39 := by
        have : ∀ l : List (List Nat), (∀ w ∈ l, 2 ≤ w.length ∧ w.length ≤ 6 ∧ ∀ x ∈ w, x ∈ ls) → (l.map List.length).sum ≤ 6 * l.length := by
          intro l
          induction l with
          | nil => intro _; exact Nat.le_refl _
          | cons x l ih =>
            intro h
            have h1 := ih fun w hw => h w (List.mem_cons_of_mem _ hw)
            have h2 := h x List.mem_cons_self
            rw [List.map_cons, List.sum_cons, List.length_cons]
            omega
        have := this words hwl
        omega
      refine ⟨_, rfl, p, g, 2, rfl, P4, by omega, by omega, fun r3 H5 f5 P5 hr3 => ⟨rfl, ?_⟩⟩
      have hW5 := f5.keep _ _ nW hW4
      generalize hag : decide (V.int (r3 : Int) = V.int 0) = ag
      refine ⟨_, rfl, _, rfl, words, ls, ag, .ref W, rfl, ⟨W, _, rfl, hW5, alw H5⟩, hlen5, hw0, hsum, fun w hw => ⟨fun z => by have := (hwl w hw).1; rw [z] at this; have : ([] : List Nat).length = 0 := rfl; omega, (hwl w hw).2.2⟩, fun vm m H6 f6 hm mok hm40 hml hms44 hma10 hacc => ?_⟩
      have hW6 := f6.k hW5
      have f06 := (f4.trans f5).trans f6.to
      have P6 := P5.keep f6
      refine ⟨_, rfl, _, rfl, _, rfl, _, rfl, p, g, 7, rfl, P6, by omega, by omega, fun r4 H7 f7 P7 hr4 => ⟨_, _, rfl, rfl, p, g, ls, words, .ref W, 3 + r4, congrArg (fun z => [V.ref p, V.str ⟨ls.toArray⟩, V.ref W, V.int z]) (show ((3 : Int) + (r4 : Int)) = ((3 + r4 : Nat) : Int) by omega), P7, hls, by omega, ⟨W, _, rfl, f7.keep _ _ nW hW6, alw H7, nW⟩, hw0, hlen5, fun w hw => ⟨fun z => by have := (hwl w hw).1; rw [z] at this; have : ([] : List Nat).length = 0 := rfl; omega, by have := (hwl w hw).2.1; omega⟩, by omega, fun vb es H8 f8 P8 hb bok bne hel => ?_⟩⟩
      have hW8 := f8.keep _ _ nW (f7.keep _ _ nW hW6)
      have f08 := (f06.trans f7).trans f8
      have hm8 : rMach H8 vm m := Mo.mo (r := rMach) (f7.trans f8) hm
      have hpok : ∀ es, BkI ls es → POk (ls, es) m := fun es h => ⟨h.ok, mok, by omega, hnd, fun s hs => hml s hs, h.rsb⟩
      refine while_by (σ := [some (.ref p), some (.str ⟨ls.toArray⟩), some (.ref W), some (.bl ag), some vm, some vb, none, none, none, none, none, none]) (fun σ' H' => ∃ (es : List (List Nat × List Nat × Nat)) (vb : V), σ' = [some (.ref p), some (.str ⟨ls.toArray⟩), some (.ref W), some (.bl ag), some vm, some vb, none, none, none, none, none, none] ∧ Fx [p, g] H H' ∧ Pl H' p g ∧ H' W = some (.lst (words.map fun w => V.str (tS w))) ∧ rMach H' vm m ∧ rBook H' vb (ls, es) ∧ BkI ls es)
        bkLen ⟨es, vb, rfl, f08, P8, hW8, hm8, hb, ⟨bok, bne, by omega⟩⟩ ?_ ?_
      · clear hm8 hW8 f08 hb bok bne hel
        rintro σ' H9 ⟨es, vb, rfl, f9, P9, hW9, hm9, hb, bi⟩
        obtain ⟨ma, vst, ven, vsp, rfl, hma, rfl, hen, hsp⟩ := id hm9
        refine ⟨_, rfl, ma, _, _, _, rfl, rfl, SqT.of hma, atI_nat (j := 0) rfl, _, rfl, (ls, es), vb, rfl, hb, bi.ok, bi.rsb, fun rq rs H10 e10 hrq hrs => ?_⟩
        have hrl := bi.rsb rs hrs.nd fun r hr => (hrs.mem r).mp hr
        refine ⟨rq, _, rfl, .inl (SqL.of hrq), _, _, rfl, rfl, .inl (by omega), _, _, rfl, rfl, _, rfl, ?_⟩
        rw [List.length_map]
        by_cases hbig : (400 : Int) < (m.1 : Int) * (rs.length : Int)
        · rw [decide_eq_true hbig]
          refine iteT ?_
          have hne : es ≠ [] := fun z => by
            have h1 : ∀ r ∈ rs, r = [] := fun r hr => by
              rcases (hrs.mem r).mp hr with h | ⟨e, _, h, _⟩
              · exact h
              · rw [z] at h; exact nomatch h
            have h2 := nodup_sub [[]] rs hrs.nd fun r hr => List.mem_singleton.mpr (h1 r hr)
            have h3 : ([[]] : List (List Nat)).length = 1 := rfl
            have h4 : m.1 * rs.length ≤ 40 * 1 := Nat.mul_le_mul hm40 (by omega)
            have h5 : (m.1 : Int) * (rs.length : Int) = ((m.1 * rs.length : Nat) : Int) := by rw [Int.natCast_mul]
            rw [h5] at hbig
            omega
          have hb10 : rBook H10 vb (ls, es) := Mo.mo (r := rBook) e10 hb
          have hlen0 := bkLen_at (σ := [some (.ref p), some (.str ⟨ls.toArray⟩), some (.ref W), some (.bl ag), some (.ref ma), some vb, none, none, none, none, none, none]) hb rfl
          obtain ⟨ba, bx, by_, rfl, hba, hbx, ⟨ea, exs, rfl, hea, hal⟩⟩ := id hb10
          have hal : Al rEd H10 exs es := hal
          have hxne : exs ≠ [] := fun z => by have := hal.len; rw [z] at this; exact hne (List.length_eq_zero_iff.mp this.symm)
          obtain ⟨c1, c2⟩ := cutV_1 hxne
          refine ⟨_, rfl, _, rfl, ba, _, _, _, rfl, rfl, SqT.of hba, atI_nat (j := 1) rfl, _, rfl, ea, exs, rfl, SqT.of hea, c2, fun E2 hE2 => ⟨by show 2 ≤ sizeLine; decide, fun B2 hB2 => ?_⟩⟩
          rw [c1]
          have gE := Fe.new (o := .tup (exs.drop 1)) hE2
          rw [c1] at hB2
          have gB := Fe.new (o := .tup [.str ⟨ls.toArray⟩, .ref E2]) hB2
          have f11 := (e10.trans gE).trans gB
          have hald : ∀ {H' : Hp} {xs : List V} {l : List (List Nat × List Nat × Nat)}, Al rEd H' xs l → Al rEd H' (xs.drop 1) (l.drop 1) := fun h => by
            cases h with
            | nil => exact .nil
            | cons h t => exact t
          have hb11 : rBook (upd (upd H10 E2 (.tup (exs.drop 1))) B2 (.tup [.str ⟨ls.toArray⟩, .ref E2])) (.ref B2) (ls, es.drop 1) := ⟨B2, _, _, rfl, upd_same, rfl, ⟨E2, _, rfl, gB.k upd_same, Al.mo gB (Al.mo gE (hald hal))⟩⟩
          refine ⟨⟨es.drop 1, .ref B2, rfl, f9.trans f11.to, P9.keep f11, f11.k hW9, Mo.mo (r := rMach) f11 hm9, hb11, bi.drop⟩, ?_⟩
          have hlen1 := bkLen_at (σ := [some (.ref p), some (.str ⟨ls.toArray⟩), some (.ref W), some (.bl ag), some (.ref ma), some (.ref B2), none, none, none, none, none, none]) hb11 rfl
          show bkLen [some (.ref p), some (.str ⟨ls.toArray⟩), some (.ref W), some (.bl ag), some (.ref ma), some (.ref B2), none, none, none, none, none, none] _ < bkLen [some (.ref p), some (.str ⟨ls.toArray⟩), some (.ref W), some (.bl ag), some (.ref ma), some (.ref ba), none, none, none, none, none, none] _
          rw [hlen0, hlen1]
          show (es.drop 1).length < es.length
          have := List.length_pos_iff.mpr hne
          rw [List.length_drop]; omega
        · rw [decide_eq_false hbig]
          refine iteF ?_
          have f10 := f9.trans e10.to
          have P10 := P9.keep e10
          have hW10 := e10.k hW9
          have hm10 : rMach H10 (.ref ma) m := Mo.mo (r := rMach) e10 hm9
          have hb10 : rBook H10 vb (ls, es) := Mo.mo (r := rBook) e10 hb
          clear hma hen hsp hrl hrs hrq hb hm9 hW9 e10 P9 f9
          have hbf := bi.few
          have helen : ∀ e ∈ es, e.1.length ≤ 500 ∧ e.2.1.length ≤ 500 := fun e he => ⟨Nat.le_trans (bi.ok.len e he) (by omega), Nat.le_trans (bi.ok.len2 e he) (by omega)⟩
          have hwpos := List.length_pos_iff.mpr hw0
          refine ⟨_, rfl, _, rfl, _, rfl, W, _, rfl, .inl (SqL.of hW10), p, g, words.length, by rw [List.length_map]; rfl, P10, by omega, by omega, fun k H11 f11 P11 hk => ?_⟩
          have hW11 := f11.keep _ _ nW hW10
          obtain ⟨word, hword⟩ : ∃ word, words[k]? = some word := ⟨_, List.getElem?_eq_getElem hk⟩
          have hwm := List.mem_of_getElem? hword
          obtain ⟨hw2, hw6, hwls⟩ := hwl word hwm
          refine ⟨W, _, _, _, rfl, rfl, SqL.of hW11, atI_nat (by rw [List.getElem?_map, hword]; rfl), ?_⟩
          have f011 := f10.trans f11
          have hm11 : rMach H11 (.ref ma) m := Mo.mo (r := rMach) f11 hm10
          have hb11 : rBook H11 vb (ls, es) := Mo.mo (r := rBook) f11 hb10
          refine ⟨_, rfl, _, rfl, _, rfl, p, g, (ls, es), vb, word, rfl, P11, hb11, bi.ok, hwls, by omega, fun q t c H12 f12 P12 nq hq htr htls htlen => ?_⟩
          have f012 := f011.trans f12
          have hm12 : rMach H12 (.ref ma) m := Mo.mo (r := rMach) f12 hm11
          have hb12 : rBook H12 vb (ls, es) := Mo.mo (r := rBook) f12 hb11
          have hW12 := f12.keep _ _ nW hW11
          have hd1 : ∃ d, least (Dst (ls, es) t word 0 0) = some d ∧ d ≤ c := by
            have h1 := least_is (Dst (ls, es) t word 0 0)
            cases h : least (Dst (ls, es) t word 0 0) with
            | none => rw [h] at h1; exact absurd (tr_dst htr) (h1 c)
            | some d => rw [h] at h1; exact ⟨d, rfl, h1.2 c (tr_dst htr)⟩
          obtain ⟨d1, hd1, hdc1⟩ := hd1
          have hd2 : ∃ d, least (Mend (ls, es) m t) = some d ∧ d ≤ c := by
            obtain ⟨q0, hq0, hq1⟩ := hacc word hwm
            have hme : Mend (ls, es) m t c := ⟨q0, hq0, tr_rs htr q0 hq1⟩
            have h1 := least_is (Mend (ls, es) m t)
            cases h : least (Mend (ls, es) m t) with
            | none => rw [h] at h1; exact absurd hme (h1 c)
            | some d => rw [h] at h1; exact ⟨d, rfl, h1.2 c hme⟩
          obtain ⟨d2, hd2, hdc2⟩ := hd2
          refine ⟨q, _, rfl, SqL.of hq, rfl, _, _, rfl, _, _, rfl, rfl, ?_⟩
          have hbf' : (ls, es).2.length ≤ 100 := by show es.length ≤ 100; omega
          have hlf' : (ls, es).1.length ≤ 100 := by show ls.length ≤ 100; omega
          refine ⟨_, rfl, _, rfl, _, rfl, (ls, es), t, word, vb, rfl, hb12, bi.ne, hbf', hlf', by omega, by omega, helen, fun H13 e13 => ?_⟩
          rw [hd1]
          have hb13 : rBook H13 vb (ls, es) := Mo.mo (r := rBook) e13 hb12
          refine ⟨_, rfl, _, rfl, _, rfl, _, rfl, (ls, es), t, word, vb, rfl, hb13, bi.ne, hbf', hlf', by omega, by omega, helen, fun H14 e14 => ?_⟩
          rw [hd1]
          refine .inl ⟨_, _, rfl, ⟨oV_sc (some d1), rfl⟩, fun H15 e15 => ⟨_, rfl, ?_⟩⟩
          refine iteF ⟨_, rfl, _, rfl, _, _, rfl, rfl, _, rfl, ?_⟩
          rw [decide_eq_false (by omega)]
          refine iteF ?_
          have e1215 := (e13.trans e14).trans e15
          have hb15 : rBook H15 vb (ls, es) := Mo.mo (r := rBook) e1215 hb12
          have hm15 : rMach H15 (.ref ma) m := Mo.mo (r := rMach) e1215 hm12
          refine ⟨_, rfl, _, rfl, _, rfl, (ls, es), m, t, vb, .ref ma, rfl, hb15, hm15, hpok es bi, htls, fun H16 e16 => ?_⟩
          rw [hd2]
          have t1 : PySem.W.kitOne K (.type "int") (.type "int") = some true := rfl
          have t2 : PySem.W.kitOne K (.type "int") (.type "bool") = some false := rfl
          refine ⟨_, rfl, _, _, _, _, _, rfl, .ty "int", .base (TyOf.int (d2 : Int)), t1, _, rfl, iteF ?_⟩
          refine ⟨_, rfl, _, _, _, _, _, rfl, .ty "bool", .base (TyOf.int (d2 : Int)), t2, _, rfl, iteF ?_⟩
          refine ⟨_, rfl, _, rfl, _, _, rfl, rfl, _, rfl, ?_⟩
          rw [decide_eq_false (by omega)]
          refine iteF ?_
          have e1216 := e1215.trans e16
          have hb16 : rBook H16 vb (ls, es) := Mo.mo (r := rBook) e1216 hb12
          have hm16 : rMach H16 (.ref ma) m := Mo.mo (r := rMach) e1216 hm12
          have hW16 := e1216.k hW12
          have f016 := f012.trans e1216.to
          have P16 := P12.keep e1216
          obtain ⟨w0, hw0'⟩ : ∃ w0, words[0]? = some w0 := ⟨_, List.getElem?_eq_getElem hwpos⟩
          obtain ⟨h02, h06, h0ls⟩ := hwl w0 (List.mem_of_getElem? hw0')
          have hcut : ∀ (H' : Hp), H' W = some (.lst (words.map fun w => V.str (tS w))) → atI (words.map fun w => V.str (tS w)) 0 = some (V.str (tS w0)) := fun _ _ => atI_nat (j := 0) (by rw [List.getElem?_map, hw0']; rfl)
          have htl36 : t.length ≤ 36 := by omega
          refine ⟨_, rfl, _, rfl, ?_⟩
          cases ag with
          | false =>
            refine iteF ?_
            refine ⟨_, rfl, _, rfl, _, rfl, _, rfl, _, rfl, by rw [slen, sizeLine_eq]; omega, _, _, rfl, rfl, p, g, t.length + 1, congrArg (fun z => [V.ref p, V.int z]) (show (((⟨t.toArray⟩ : Str).length : Int) + 1) = ((t.length + 1 : Nat) : Int) by rw [slen]; omega), P16, by omega, by omega, fun r5 H20 f20 P20 hr5 => ?_⟩
            refine ⟨_, rfl, _, rfl, by rw [slen, sizeLine_eq]; omega, ?_⟩
            rw [cut_to t r5 (by omega)]
            refine ⟨_, rfl, _, rfl, p, g, ls, 0, 5, rfl, P20, hls, by omega, by decide, by decide, fun t3 H21 f21 P21 ht3 _ h35 => ?_⟩
            refine ⟨by show 3 ≤ sizeLine; decide, fun U hU => ?_⟩
            have gU := Fe.new (o := .tup [.str ⟨t.toArray⟩, .str ⟨(t.take r5).toArray⟩, .str ⟨t3.toArray⟩]) hU
            have fU := (f20.trans f21).trans gU.to
            have PU := P21.keep gU
            have hb22 : rBook _ vb (ls, es) := Mo.mo (r := rBook) fU hb16
            have hm22 : rMach _ (.ref ma) m := Mo.mo (r := rMach) fU hm16
            have hW22 := fU.keep _ _ nW hW16
            have f022 := f016.trans fU
            have hUv : (upd H21 U (.tup [.str ⟨t.toArray⟩, .str ⟨(t.take r5).toArray⟩, .str ⟨t3.toArray⟩])) U = some (.tup [.str ⟨t.toArray⟩, .str ⟨(t.take r5).toArray⟩, .str ⟨t3.toArray⟩]) := upd_same
            generalize upd H21 U (.tup [.str ⟨t.toArray⟩, .str ⟨(t.take r5).toArray⟩, .str ⟨t3.toArray⟩]) = H22 at PU hb22 hm22 hW22 f022 hUv ⊢
            have each : ∀ (i : Nat) (x : V), ([.str ⟨t.toArray⟩, .str ⟨(t.take r5).toArray⟩, .str ⟨t3.toArray⟩] : List V)[i]? = some x → ∃ tt : List Nat, x = .str ⟨tt.toArray⟩ ∧ (∀ y ∈ tt, y ∈ ls) ∧ tt.length ≤ 100 := fun i x hx => by
              match i, hx with
              | 0, hx => cases hx; exact ⟨t, rfl, htls, by omega⟩
              | 1, hx => cases hx; exact ⟨t.take r5, rfl, fun y hy => htls y (List.mem_of_mem_take hy), by rw [List.length_take]; omega⟩
              | 2, hx => cases hx; exact ⟨t3, rfl, ht3, by omega⟩
              | n + 3, hx => cases hx
            refine ⟨U, rfl, ⟨_, SqT.of hUv⟩, for_tup (xs := [.str ⟨t.toArray⟩, .str ⟨(t.take r5).toArray⟩, .str ⟨t3.toArray⟩]) (fun i σ' H' => ∃ o10 : Option V, σ' = [some (.ref p), some (.str ⟨ls.toArray⟩), some (.ref W), some (.bl false), some (.ref ma), some vb, some (.str ⟨word.toArray⟩), some (.str ⟨t.toArray⟩), some (vN c), some (vN d2), o10, none] ∧ Fe H22 H') ⟨_, rfl, Fx.refl _ _⟩ (fun i σ' H' _ ⟨_, _, e⟩ => SqT.of (e.k hUv)) ?_ ?_⟩
            · rintro i x σ' H23 hx ⟨o10, rfl, e23⟩
              obtain ⟨tt, rfl, htt, htl⟩ := each i x hx
              refine ⟨_, rfl, _, rfl, _, rfl, (ls, es), m, tt, vb, .ref ma, rfl, Mo.mo (r := rBook) e23 hb22, Mo.mo (r := rMach) e23 hm22, hpok es bi, by omega, htt, by omega, fun H24 e24 => ⟨_, rfl, iteF ⟨_, rfl, e23.trans e24⟩⟩⟩
            · rintro σ' H23 ⟨o10, rfl, e23⟩
              have hb23 : rBook H23 vb (ls, es) := Mo.mo (r := rBook) e23 hb22
              have hW23 := e23.k hW22
              refine ⟨_, rfl, _, rfl, _, rfl, W, _, _, _, rfl, rfl, SqL.of hW23, hcut H23 hW23, (ls, es), t, w0, vb, rfl, hb23, bi.ne, hbf', hlf', by omega, by omega, helen, fun H25 e25 => ?_⟩
              have hb25 : rBook H25 vb (ls, es) := Mo.mo (r := rBook) e25 hb23
              have hW25 := e25.k hW23
              refine ⟨_, rfl, _, rfl, _, rfl, W, _, _, _, rfl, rfl, SqL.of hW25, hcut H25 hW25, (ls, es), t, w0, vb, rfl, hb25, bi.ne, hbf', hlf', by omega, by omega, helen, fun H26 e26 => ?_⟩
              have e2326 := (e23.trans e25).trans e26
              exact .inl ⟨_, _, rfl, ⟨oV_sc _, rfl⟩, fun H27 e27 => kk H27 (f022.trans (e2326.trans e27).to) (PU.keep (e2326.trans e27))⟩
          | true =>
            refine iteT ?_
            refine ⟨_, rfl, _, rfl, _, rfl, _, rfl, W, _, _, _, rfl, rfl, SqL.of hW16, hcut H16 hW16, p, g, (ls, es), vb, w0, rfl, P16, hb16, bi.ok, h0ls, by omega, fun q2 tt c2 H17 f17 P17 nq2 hq2 htr2 htls2 htlen2 => ?_⟩
            refine ⟨q2, _, _, _, rfl, rfl, SqL.of hq2, atI_nat (j := 0) rfl, _, _, rfl, rfl, by rw [slen, slen, sizeLine_eq]; omega, ?_⟩
            rw [str_apps]
            have hb16 : rBook H17 vb (ls, es) := Mo.mo (r := rBook) f17 hb16
            have hm16 : rMach H17 (.ref ma) m := Mo.mo (r := rMach) f17 hm16
            have hW16 := f17.keep _ _ nW hW16
            have f016 := f016.trans f17
            have P16 := P17
            have htls : ∀ x ∈ t ++ tt, x ∈ ls := fun x hx => (List.mem_append.mp hx).elim (htls x) (htls2 x)
            have htl36 : (t ++ tt).length ≤ 36 := by rw [List.length_append]; omega
            revert hb16 hm16 hW16 f016 P16 htls htl36
            generalize t ++ tt = t
            generalize H17 = H16
            intro hb16 hm16 hW16 f016 P16 htls htl36
            refine ⟨_, rfl, _, rfl, _, rfl, _, rfl, _, rfl, by rw [slen, sizeLine_eq]; omega, _, _, rfl, rfl, p, g, t.length + 1, congrArg (fun z => [V.ref p, V.int z]) (show (((⟨t.toArray⟩ : Str).length : Int) + 1) = ((t.length + 1 : Nat) : Int) by rw [slen]; omega), P16, by omega, by omega, fun r5 H20 f20 P20 hr5 => ?_⟩
            refine ⟨_, rfl, _, rfl, by rw [slen, sizeLine_eq]; omega, ?_⟩
            rw [cut_to t r5 (by omega)]
            refine ⟨_, rfl, _, rfl, p, g, ls, 0, 5, rfl, P20, hls, by omega, by decide, by decide, fun t3 H21 f21 P21 ht3 _ h35 => ?_⟩
            refine ⟨by show 3 ≤ sizeLine; decide, fun U hU => ?_⟩
            have gU := Fe.new (o := .tup [.str ⟨t.toArray⟩, .str ⟨(t.take r5).toArray⟩, .str ⟨t3.toArray⟩]) hU
            have fU := (f20.trans f21).trans gU.to
            have PU := P21.keep gU
            have hb22 : rBook _ vb (ls, es) := Mo.mo (r := rBook) fU hb16
            have hm22 : rMach _ (.ref ma) m := Mo.mo (r := rMach) fU hm16
            have hW22 := fU.keep _ _ nW hW16
            have f022 := f016.trans fU
            have hUv : (upd H21 U (.tup [.str ⟨t.toArray⟩, .str ⟨(t.take r5).toArray⟩, .str ⟨t3.toArray⟩])) U = some (.tup [.str ⟨t.toArray⟩, .str ⟨(t.take r5).toArray⟩, .str ⟨t3.toArray⟩]) := upd_same
            generalize upd H21 U (.tup [.str ⟨t.toArray⟩, .str ⟨(t.take r5).toArray⟩, .str ⟨t3.toArray⟩]) = H22 at PU hb22 hm22 hW22 f022 hUv ⊢
            have each : ∀ (i : Nat) (x : V), ([.str ⟨t.toArray⟩, .str ⟨(t.take r5).toArray⟩, .str ⟨t3.toArray⟩] : List V)[i]? = some x → ∃ tt : List Nat, x = .str ⟨tt.toArray⟩ ∧ (∀ y ∈ tt, y ∈ ls) ∧ tt.length ≤ 100 := fun i x hx => by
              match i, hx with
              | 0, hx => cases hx; exact ⟨t, rfl, htls, by omega⟩
              | 1, hx => cases hx; exact ⟨t.take r5, rfl, fun y hy => htls y (List.mem_of_mem_take hy), by rw [List.length_take]; omega⟩
              | 2, hx => cases hx; exact ⟨t3, rfl, ht3, by omega⟩
              | n + 3, hx => cases hx
            refine ⟨U, rfl, ⟨_, SqT.of hUv⟩, for_tup (xs := [.str ⟨t.toArray⟩, .str ⟨(t.take r5).toArray⟩, .str ⟨t3.toArray⟩]) (fun i σ' H' => ∃ o10 : Option V, σ' = [some (.ref p), some (.str ⟨ls.toArray⟩), some (.ref W), some (.bl true), some (.ref ma), some vb, some (.str ⟨word.toArray⟩), some (.str ⟨t.toArray⟩), some (vN c), some (vN d2), o10, none] ∧ Fe H22 H') ⟨_, rfl, Fx.refl _ _⟩ (fun i σ' H' _ ⟨_, _, e⟩ => SqT.of (e.k hUv)) ?_ ?_⟩
            · rintro i x σ' H23 hx ⟨o10, rfl, e23⟩
              obtain ⟨tt, rfl, htt, htl⟩ := each i x hx
              refine ⟨_, rfl, _, rfl, _, rfl, (ls, es), m, tt, vb, .ref ma, rfl, Mo.mo (r := rBook) e23 hb22, Mo.mo (r := rMach) e23 hm22, hpok es bi, by omega, htt, by omega, fun H24 e24 => ⟨_, rfl, iteF ⟨_, rfl, e23.trans e24⟩⟩⟩
            · rintro σ' H23 ⟨o10, rfl, e23⟩
              have hb23 : rBook H23 vb (ls, es) := Mo.mo (r := rBook) e23 hb22
              have hW23 := e23.k hW22
              refine ⟨_, rfl, _, rfl, _, rfl, W, _, _, _, rfl, rfl, SqL.of hW23, hcut H23 hW23, (ls, es), t, w0, vb, rfl, hb23, bi.ne, hbf', hlf', by omega, by omega, helen, fun H25 e25 => ?_⟩
              have hb25 : rBook H25 vb (ls, es) := Mo.mo (r := rBook) e25 hb23
              have hW25 := e25.k hW23
              refine ⟨_, rfl, _, rfl, _, rfl, W, _, _, _, rfl, rfl, SqL.of hW25, hcut H25 hW25, (ls, es), t, w0, vb, rfl, hb25, bi.ne, hbf', hlf', by omega, by omega, helen, fun H26 e26 => ?_⟩
              have e2326 := (e23.trans e25).trans e26
              exact .inl ⟨_, _, rfl, ⟨oV_sc _, rfl⟩, fun H27 e27 => kk H27 (f022.trans (e2326.trans e27).to) (PU.keep (e2326.trans e27))⟩
      · intro σ H Q Q' hq h
        obtain ⟨v, e, a, xs, i, c, e1, e2, h3, h4, v5, e5, b, v1, e6, hb, bok, rsb, F⟩ := h
        refine ⟨v, e, a, xs, i, c, e1, e2, h3, h4, v5, e5, b, v1, e6, hb, bok, rsb, fun q rs H' k1 k2 k3 => ?_⟩
        obtain ⟨p1, ys, g1, g2, i1, j1, g3, g4, g5, i2, j2, g6, g7, bb, g8, g9⟩ := F q rs H' k1 k2 k3
        exact ⟨p1, ys, g1, g2, i1, j1, g3, g4, g5, i2, j2, g6, g7, bb, g8, hq _ _ g9⟩
end
end Fm
/-! the law's small books, plainly -/
namespace Fm
open PySem L2
def tb1 (f h p : Nat) : Book := ([f, h, p], [([p, h], [f], 3)])
def tb2 (f h p : Nat) : Book := ([f, h, p], [([f], [h], 1), ([p, h], [f], 3)])
def tmm (f : Nat) : Mach := (2, [1], [(0, f, 1)])
section
variable {f h p : Nat} (hfh : f ≠ h) (hfp : f ≠ p) (hhp : h ≠ p)
theorem tb1_ok : BOk (tb1 f h p) := ⟨by show 1 ≤ 60; omega, fun e he => by rw [List.mem_singleton.mp he]; show 2 ≤ 3; omega, fun e he => by rw [List.mem_singleton.mp he]; show 1 ≤ 3; omega, fun e he c hc => by
  rw [List.mem_singleton.mp he] at hc
  have hc : c ∈ [p, h] := hc
  show c ∈ [f, h, p]
  simp at hc ⊢
  rcases hc with rfl | rfl <;> simp, by show 3 ≤ 100; omega⟩
theorem tmm_ok : MOk (tmm f) := ⟨by show 0 < 2; omega, by show 2 ≤ 1000; omega, fun q hq => by rw [List.mem_singleton.mp hq]; show 1 < 2; omega, fun s hs => by rw [List.mem_singleton.mp hs]; exact ⟨by show 0 < 2; omega, by show 1 < 2; omega⟩, by show 1 ≤ 100; omega⟩
include hfh hfp hhp in
theorem t_nd : [f, h, p].Nodup := by simp [hfh, hfp, hhp]
include hfh hfp hhp in
theorem tb1_pok : POk (tb1 f h p) (tmm f) := ⟨tb1_ok, tmm_ok, by show 2 ≤ 60; omega, t_nd hfh hfp hhp, fun s hs => by rw [List.mem_singleton.mp hs]; show f ∈ [f, h, p]; simp, rsb_30 tb1_ok (by show 1 ≤ 30; omega)⟩
theorem tb1_rests : RsOf (tb1 f h p) [[], [h]] := ⟨by simp, rfl, fun r => by
  constructor
  · intro hr
    rcases List.mem_cons.mp hr with rfl | hr
    · exact .inl rfl
    · rw [List.mem_singleton.mp hr]
      exact .inr ⟨([p, h], [f], 3), 1, List.mem_singleton.mpr rfl, Nat.le_refl _, by show 1 < 2; omega, rfl⟩
  · rintro (rfl | ⟨e, k, h1, h2, h3, rfl⟩)
    · exact List.mem_cons_self
    · rw [List.mem_singleton.mp h1] at h3 ⊢
      have h3 : k < 2 := h3
      have : k = 1 := by omega
      subst this
      simp⟩
/-- what may be reached -/
def Rt (f h p : Nat) (t : List Nat) (s : Stg) (c : Nat) : Prop := (t = [] → s = (0, []) ∧ c = 0) ∧ (t = [p] → s = (1, [h]) ∧ c = 3) ∧ (t = [p, h] → s = (1, []) ∧ c = 3) ∧ (t = [f] → s = (1, []) ∧ c = 0)
theorem lead_f {q : Nat} (h : Lead (Em (tmm f)) [f] 0 q) : q = 1 := by
  obtain ⟨r, h1, h2⟩ := h
  have h1 : (0, f, r) ∈ [(0, f, 1)] := h1
  have : r = 1 := by simpa using h1
  have h2 : r = q ∨ q = r := by first | exact .inl h2 | exact .inr h2
  omega
include hfh hfp hhp in
theorem rt_of {t : List Nat} {s : Stg} {c : Nat} (hr : Rs (tb1 f h p) (tmm f) t s c) : Rt f h p t s c := by
  induction hr with
  | beg => exact ⟨fun _ => ⟨rfl, rfl⟩, fun z => (nomatch z), fun z => (nomatch z), fun z => (nomatch z)⟩
  | sil h1 mv ih =>
    obtain ⟨_, _, wr, h3, _⟩ := mv
    have h3 := List.mem_singleton.mp h3
    cases h3
  | @rea t s s' c d x h1 mv ih =>
    obtain ⟨i0, i1, i2, i3⟩ := ih
    refine ⟨fun z => by simp at z, fun z => ?_, fun z => ?_, fun z => ?_⟩
    · have e := List.append_inj' (show t ++ [x] = [] ++ [p] from z) rfl
      obtain ⟨e1, e2⟩ := e
      injection e2 with e2 _
      subst e1 e2
      obtain ⟨rfl, rfl⟩ := i0 rfl
      rcases mv with ⟨r, k1, _⟩ | ⟨_, _, k3, _⟩ | ⟨_, rd, wr, k2, k3, k4⟩
      · cases k1
      · have k3 : (0, x, s'.1) ∈ [(0, f, 1)] := k3
        simp at k3
        exact absurd k3.1.symm hfp
      · have k2 := List.mem_singleton.mp k2
        injection k2 with k2 k5
        injection k5 with k5 k6
        injection k2 with _ k7
        subst k5 k6 k7
        have := lead_f k4
        exact ⟨Prod.ext this k3, rfl⟩
    · have e := List.append_inj' (show t ++ [x] = [p] ++ [h] from z) rfl
      obtain ⟨e1, e2⟩ := e
      injection e2 with e2 _
      subst e1 e2
      obtain ⟨rfl, rfl⟩ := i1 rfl
      rcases mv with ⟨r, k1, k2, k3⟩ | ⟨k1, _⟩ | ⟨k1, _⟩
      · injection k1 with _ k1
        subst k1 k3
        exact ⟨k2, rfl⟩
      · cases k1
      · cases k1
    · have e := List.append_inj' (show t ++ [x] = [] ++ [f] from z) rfl
      obtain ⟨e1, e2⟩ := e
      injection e2 with e2 _
      subst e1 e2
      obtain ⟨rfl, rfl⟩ := i0 rfl
      rcases mv with ⟨r, k1, _⟩ | ⟨_, k2, k3, k4⟩ | ⟨_, rd, wr, k2, k3, k4⟩
      · cases k1
      · have k3 : (0, x, s'.1) ∈ [(0, x, 1)] := k3
        have k3 : s'.1 = 1 := by simpa using k3
        exact ⟨Prod.ext k3 k2, by rw [k4]⟩
      · have k2 := List.mem_singleton.mp k2
        injection k2 with k2 k5
        injection k2 with k2 _
        exact absurd k2 hfp
theorem rs_p : Rs (tb1 f h p) (tmm f) [p] (1, [h]) 3 := by
  have := Rs.rea (x := p) (s' := (1, [h])) (d := 3) (Rs.beg (b := tb1 f h p) (m := tmm f)) (.inr (.inr ⟨rfl, [h], [f], List.mem_singleton.mpr rfl, rfl, 1, List.mem_singleton.mpr rfl, rfl⟩))
  exact this
theorem rs_ph : Rs (tb1 f h p) (tmm f) [p, h] (1, []) 3 := by
  have := Rs.rea (x := h) (s' := (1, [])) (d := 0) (rs_p (f := f) (h := h) (p := p)) (.inl ⟨[], rfl, rfl, rfl⟩)
  exact this
theorem rs_f : Rs (tb1 f h p) (tmm f) [f] (1, []) 0 := by
  have := Rs.rea (x := f) (s' := (1, [])) (d := 0) (Rs.beg (b := tb1 f h p) (m := tmm f)) (.inr (.inl ⟨rfl, rfl, List.mem_singleton.mpr rfl, rfl⟩))
  exact this
include hfh hfp hhp in
theorem mend_p : least (Mend (tb1 f h p) (tmm f) [p]) = none := least_eq (o := none) fun c ⟨q, _, hr⟩ => by
  have := ((rt_of hfh hfp hhp hr).2.1 rfl).1
  injection this with _ e
  cases e
include hfh hfp hhp in
theorem mend_ph : least (Mend (tb1 f h p) (tmm f) [p, h]) = some 3 := least_eq (o := some 3) ⟨⟨1, List.mem_singleton.mpr rfl, rs_ph⟩, fun c ⟨q, _, hr⟩ => by
  have := ((rt_of hfh hfp hhp hr).2.2.1 rfl).2
  omega⟩
include hfh hfp hhp in
theorem mend_f : least (Mend (tb1 f h p) (tmm f) [f]) = some 0 := least_eq (o := some 0) ⟨⟨1, List.mem_singleton.mpr rfl, rs_f⟩, fun c _ => Nat.zero_le _⟩
theorem sts_tb : stsOf 2 [[], [h]] = [(0, []), (0, [h]), (1, []), (1, [h])] := rfl
include hfh hfp hhp in
theorem row_p {row : CRow} (R : LRow (stsOf 2 [[], [h]]).length (Rc (tb1 f h p) (tmm f) (stsOf 2 [[], [h]]) [p]) row) (sd : Std (tb1 f h p) (tmm f) (stsOf 2 [[], [h]])) : row = [none, none, none, some 3] := by
  refine R.uniq2 ⟨rfl, fun k c hk => ?_, fun k c hk => ?_⟩
  · refine (rc_rs sd.ok [p] k c).mpr ?_
    match k, hk with
    | 0, hk => cases hk
    | 1, hk => cases hk
    | 2, hk => cases hk
    | 3, hk => cases hk; exact ⟨(1, [h]), rfl, rs_p⟩
    | n + 4, hk => cases hk
  · obtain ⟨s, hs, hr⟩ := (rc_rs sd.ok [p] k c).mp hk
    obtain ⟨rfl, rfl⟩ := (rt_of hfh hfp hhp hr).2.1 rfl
    match k, hs with
    | 0, hs => cases hs
    | 1, hs => cases hs
    | 2, hs => cases hs
    | 3, hs => exact ⟨3, rfl, Nat.le_refl _⟩
    | n + 4, hs => cases hs
theorem dst_inv {b : Book} {t o : List Nat} {i j c : Nat} (hd : Dst b t o i j c) : (i = t.length ∧ j = o.length ∧ c = 0) ∨ ∃ (r w : List Nat) (d c' : Nat), (r, w, d) ∈ alle b ∧ (t.drop i).take r.length = r ∧ (o.drop j).take w.length = w ∧ Dst b t o (i + r.length) (j + w.length) c' ∧ c = d + c' := by
  cases hd with
  | fin => exact .inl ⟨rfl, rfl, rfl⟩
  | step h1 h2 h3 h4 => exact .inr ⟨_, _, _, _, h1, h2, h3, h4, rfl⟩
theorem alle_tb2 {r w : List Nat} {d : Nat} (hm : (r, w, d) ∈ alle (tb2 f h p)) : (r = [f] ∧ w = [h] ∧ d = 1) ∨ (r = [p, h] ∧ w = [f] ∧ d = 3) ∨ (r = [f] ∧ w = [f] ∧ d = 0) ∨ (r = [h] ∧ w = [h] ∧ d = 0) ∨ (r = [p] ∧ w = [p] ∧ d = 0) := by
  simpa [alle, tb2] using hm
include hfh hfp hhp in
theorem dst_a : least (Dst (tb2 f h p) [p, h] [h] 0 0) = none := least_eq (o := none) fun c hd => by
  rcases dst_inv hd with ⟨h1, _⟩ | ⟨r, w, d, c', hm, h1, h2, _⟩
  · cases h1
  · rcases alle_tb2 hm with ⟨rfl, rfl, rfl⟩ | ⟨rfl, rfl, rfl⟩ | ⟨rfl, rfl, rfl⟩ | ⟨rfl, rfl, rfl⟩ | ⟨rfl, rfl, rfl⟩
    · simp at h1; exact hfp h1.symm
    · simp at h2; exact hfh h2.symm
    · simp at h1; exact hfp h1.symm
    · simp at h1; exact hhp h1.symm
    · simp at h2; exact hhp h2
include hfh hfp hhp in
theorem dst_b : least (Dst (tb2 f h p) [p, h, f] [f, h] 0 0) = some 4 := least_eq (o := some 4) (by
  have m1 : ([p, h], [f], 3) ∈ alle (tb2 f h p) := List.mem_append_left _ (by simp [tb2])
  have m2 : ([f], [h], 1) ∈ alle (tb2 f h p) := List.mem_append_left _ (by simp [tb2])
  refine ⟨Dst.step (d := 3) (c := 1) m1 rfl rfl (Dst.step (d := 1) (c := 0) m2 rfl rfl .fin), fun c hd => ?_⟩
  rcases dst_inv hd with ⟨h1, _⟩ | ⟨r, w, d, c', hm, h1, h2, h3, rfl⟩
  · cases h1
  · rcases alle_tb2 hm with ⟨rfl, rfl, rfl⟩ | ⟨rfl, rfl, rfl⟩ | ⟨rfl, rfl, rfl⟩ | ⟨rfl, rfl, rfl⟩ | ⟨rfl, rfl, rfl⟩
    · simp at h1; exact absurd h1.symm hfp
    · have h3 : Dst (tb2 f h p) [p, h, f] [f, h] 2 1 c' := h3
      rcases dst_inv h3 with ⟨k1, _⟩ | ⟨r, w, d, c2, hm2, k1, k2, k3, rfl⟩
      · cases k1
      · rcases alle_tb2 hm2 with ⟨rfl, rfl, rfl⟩ | ⟨rfl, rfl, rfl⟩ | ⟨rfl, rfl, rfl⟩ | ⟨rfl, rfl, rfl⟩ | ⟨rfl, rfl, rfl⟩
        · omega
        · simp at k1
        · simp at k2; exact absurd k2.symm hfh
        · simp at k1; exact absurd k1 hfh
        · simp at k1; exact absurd k1 hfp
    · simp at h1; exact absurd h1.symm hfp
    · simp at h1; exact absurd h1.symm hhp
    · simp at h2; exact absurd h2 hfp)
theorem tb2_ne (hfh : f ≠ h) : BNe (tb2 f h p) := fun e he => by
  have : e = ([f], [h], 1) ∨ e = ([p, h], [f], 3) := by simpa [tb2] using he
  rcases this with rfl | rfl
  · simp [hfh]
  · simp
/-- few rests over two letters -/
theorem rsb_2 {a c : Nat} {es : List (List Nat × List Nat × Nat)} (bok : BOk ([a, c], es)) : RsB ([a, c], es) := fun rs nd hr => by
  have := nodup_sub [[], [a], [c], [a, a], [a, c], [c, a], [c, c]] rs nd fun r h => by
    rcases hr r h with rfl | ⟨e, k, h1, h2, h3, rfl⟩
    · simp
    · have h4 := bok.len e h1
      have h5 : ∀ x ∈ e.1.drop k, x = a ∨ x = c := fun x hx => by
        have := bok.lets e h1 x (List.mem_of_mem_drop hx)
        simpa using this
      have h6 : (e.1.drop k).length ≤ 2 := by rw [List.length_drop]; omega
      revert h5 h6
      generalize e.1.drop k = r
      intro h5 h6
      match r, h5, h6 with
      | [], _, _ => simp
      | [x], h5, _ => rcases h5 x (by simp) with rfl | rfl <;> simp
      | [x, y], h5, _ =>
        rcases h5 x (by simp) with rfl | rfl <;> rcases h5 y (by simp) with rfl | rfl <;> simp
      | _ :: _ :: _ :: _, _, h6 => simp at h6
  have e : ([[], [a], [c], [a, a], [a, c], [c, a], [c, c]] : List (List Nat)).length = 7 := rfl
  omega
end
end Fm
/-! the law -/
namespace Fm
open PySem L2
def spLaw (K : PySem.W.Frag) : Sp := fun vs H Q _ => ∃ (a : Addr) (ns : List Int), vs = [.ref a] ∧ SqL K H a (ns.map V.int) ∧ ns.length ≤ 63 ∧ ∀ H', Q (.bl true) H'
theorem cut_to40 (l : List Nat) : cutS ⟨l.toArray⟩ none (some (40 : Int)) = ⟨(l.take 40).toArray⟩ := by
  unfold cutS
  have : HT.sIx (⟨l.toArray⟩ : Str).length (⟨l.toArray⟩ : Str).length (some (40 : Int)) = min 40 l.length := by
    rw [slen]
    exact HT.sIx_nat l.length l.length 40
  rw [this]
  show (⟨((l.drop 0).take (min 40 l.length - 0)).toArray⟩ : Str) = _
  rw [List.drop_zero, Nat.sub_zero]
  congr 2
  rcases Nat.le_total 40 l.length with h | h
  · rw [Nat.min_eq_left h]
  · rw [Nat.min_eq_right h, List.take_length, List.take_of_length_le h]
section
variable {P : Program} {w : World} {K : PySem.W.Frag} {g : Str → Option Value} {base : Heap}
theorem ok_law (T : Txt K g) : FnOk P w K g base CX0 10 T.d_law.f T.d_law.fd P_law (spLaw K) := by
  refine T.d_law.F.ok sc_law (fun vs H Q E h => ?_) (fun cdv A outer s H vs Q E hr h => ?_)
  · obtain ⟨_, _, rfl, _⟩ := h
    rfl
  · obtain ⟨sa, ns, rfl, hs, hlen, kk⟩ := h
    have hu := hu_of hr
    refine ⟨_, (pss_cons (ps_set (i := 1) sc_law.nd rfl (by first | exact Or.inl rfl | exact Or.inr rfl) (pe_call (ok_law_pool T) (hr.mono (by decide)) rfl T.d_law_pool.mg T.d_law_pool.kp T.d_law_pool.b .nil pass0 (pa_cons (pv 0) pa_nil)))
    (pss_cons (ps_asg (pe_callTy (kc_listS rfl) (by rfl) T.z_list (by decide +kernel) (pa_cons (pe_call (ok_law_letters T) (hr.mono (by decide)) rfl T.d_law_letters.mg T.d_law_letters.kp T.d_law_letters.b .nil pass0 (pa_cons (pv 1) (pa_cons pe_int pa_nil))) pa_nil)) (kg_unl (K := K) 3 rfl rfl (pgs_cons (pg_name (i := 2) sc_law.nd rfl (by first | exact Or.inl rfl | exact Or.inr rfl)) (pgs_cons (pg_name (i := 3) sc_law.nd rfl (by first | exact Or.inl rfl | exact Or.inr rfl)) (pgs_cons (pg_name (i := 4) sc_law.nd rfl (by first | exact Or.inl rfl | exact Or.inr rfl)) pgs_nil)))))
    (pss_cons (ps_set (i := 5) sc_law.nd rfl (by first | exact Or.inl rfl | exact Or.inr rfl) (pe_tup (pa_cons (pe_op op_add_str (pe_op op_add_str (pv 2) (pv 3)) (pv 4)) (pa_cons (pe_tup (pa_cons (pe_tup (pa_cons (pe_op op_add_str (pv 4) (pv 3)) (pa_cons (pv 2) (pa_cons pe_int pa_nil)))) pa_nil)) pa_nil))))
    (pss_cons (ps_set (i := 6) sc_law.nd rfl (by first | exact Or.inl rfl | exact Or.inr rfl) (pe_tup (pa_cons pe_int (pa_cons (pe_tup (pa_cons pe_int pa_nil)) (pa_cons (pe_tup (pa_cons (pe_tup (pa_cons pe_int (pa_cons (pv 2) (pa_cons pe_int pa_nil)))) pa_nil)) pa_nil)))))
    (pss_cons (ps_if (pt_not (pt_val (pe_call (same_all T) (hr.mono (by decide)) rfl T.d_law_same.mg T.d_law_same.kp T.d_law_same.b .nil pass0 (pa_cons (pe_call (ok_standings_of T) (hr.mono (by decide)) rfl T.d_standings_of.mg T.d_standings_of.kp T.d_standings_of.b .nil pass0 (pa_cons (pv 5) (pa_cons (pv 6) pa_nil))) (pa_cons (pe_tup (pa_cons (pe_tup (pa_cons pe_int (pa_cons pe_str pa_nil))) (pa_cons (pe_tup (pa_cons pe_int (pa_cons (pv 3) pa_nil))) (pa_cons (pe_tup (pa_cons pe_int (pa_cons pe_str pa_nil))) (pa_cons (pe_tup (pa_cons pe_int (pa_cons (pv 3) pa_nil))) pa_nil))))) pa_nil)))))
      (pss_one (ps_ret pe_bl))
      pss_nil)
    (pss_cons (ps_if (PW.pt (pw_or (pt_not (pt_val (pe_call (same_all T) (hr.mono (by decide)) rfl T.d_law_same.mg T.d_law_same.kp T.d_law_same.b .nil pass0 (pa_cons (pe_call (ok_cost_row T) (hr.mono (by decide)) rfl T.d_cost_row.mg T.d_cost_row.kp T.d_cost_row.b .nil pass0 (pa_cons (pv 5) (pa_cons (pv 6) (pa_cons (pv 4) pa_nil)))) (pa_cons (pe_tup (pa_cons pe_non (pa_cons pe_non (pa_cons pe_non (pa_cons pe_int pa_nil))))) pa_nil))))) (pw_or1 (pt_cmpR op_notN (pe_call (ok_mend_distance T) (hr.mono (by decide)) rfl T.d_mend_distance.mg T.d_mend_distance.kp T.d_mend_distance.b .nil pass0 (pa_cons (pv 5) (pa_cons (pv 6) (pa_cons (pv 4) pa_nil)))) pe_non (nomark _)))))
      (pss_one (ps_ret pe_bl))
      pss_nil)
    (pss_cons (ps_if (PW.pt (pw_or (pt_not (pt_val (pe_call (same_all T) (hr.mono (by decide)) rfl T.d_law_same.mg T.d_law_same.kp T.d_law_same.b .nil pass0 (pa_cons (pe_call (ok_mend_distance T) (hr.mono (by decide)) rfl T.d_mend_distance.mg T.d_mend_distance.kp T.d_mend_distance.b .nil pass0 (pa_cons (pv 5) (pa_cons (pv 6) (pa_cons (pe_op op_add_str (pv 4) (pv 3)) pa_nil)))) (pa_cons pe_int pa_nil))))) (pw_or1 (pt_not (pt_val (pe_call (same_all T) (hr.mono (by decide)) rfl T.d_law_same.mg T.d_law_same.kp T.d_law_same.b .nil pass0 (pa_cons (pe_call (ok_mend_distance T) (hr.mono (by decide)) rfl T.d_mend_distance.mg T.d_mend_distance.kp T.d_mend_distance.b .nil pass0 (pa_cons (pv 5) (pa_cons (pv 6) (pa_cons (pv 2) pa_nil)))) (pa_cons pe_int pa_nil))))))))
      (pss_one (ps_ret pe_bl))
      pss_nil)
    (pss_cons (ps_set (i := 5) sc_law.nd rfl (by first | exact Or.inl rfl | exact Or.inr rfl) (pe_tup (pa_cons (pe_op op_add_str (pe_op op_add_str (pv 2) (pv 3)) (pv 4)) (pa_cons (pe_tup (pa_cons (pe_tup (pa_cons (pv 2) (pa_cons (pv 3) (pa_cons pe_int pa_nil)))) (pa_cons (pe_tup (pa_cons (pe_op op_add_str (pv 4) (pv 3)) (pa_cons (pv 2) (pa_cons pe_int pa_nil)))) pa_nil))) pa_nil))))
    (pss_cons (ps_if (PW.pt (pw_or (pt_cmpR op_notN (pe_call (ok_distance_of T) (hr.mono (by decide)) rfl T.d_distance_of.mg T.d_distance_of.kp T.d_distance_of.b .nil pass0 (pa_cons (pv 5) (pa_cons (pe_op op_add_str (pv 4) (pv 3)) (pa_cons (pv 3) pa_nil)))) pe_non (nomark _)) (pw_or1 (pt_not (pt_val (pe_call (same_all T) (hr.mono (by decide)) rfl T.d_law_same.mg T.d_law_same.kp T.d_law_same.b .nil pass0 (pa_cons (pe_call (ok_distance_of T) (hr.mono (by decide)) rfl T.d_distance_of.mg T.d_distance_of.kp T.d_distance_of.b .nil pass0 (pa_cons (pv 5) (pa_cons (pe_op op_add_str (pe_op op_add_str (pv 4) (pv 3)) (pv 2)) (pa_cons (pe_op op_add_str (pv 2) (pv 3)) pa_nil)))) (pa_cons pe_int pa_nil))))))))
      (pss_one (ps_ret pe_bl))
      pss_nil)
    (pss_cons (ps_for PassesOwn.never rfl (pi_range1 rfl T.z_range (pa_cons pe_int pa_nil)) (pg_name (i := 7) sc_law.nd rfl (by first | exact Or.inl rfl | exact Or.inr rfl))
      (pss_one (ps_if (pt_not (pt_val (pe_call (ok_law_words_hold T) (hr.mono (by decide)) rfl T.d_law_words_hold.mg T.d_law_words_hold.kp T.d_law_words_hold.b .nil pass0 (pa_cons (pv 1) pa_nil))))
        (pss_one (ps_ret pe_bl))
        pss_nil)))
    (pss_cons (ps_if (pt_cmpR op_eq (pe_call (ok_law_draw T) (hr.mono (by decide)) rfl T.d_law_draw.mg T.d_law_draw.kp T.d_law_draw.b .nil pass0 (pa_cons (pv 1) (pa_cons pe_int pa_nil))) pe_int (nomark _))
      (pss_cons (ps_set (i := 8) sc_law.nd rfl (by first | exact Or.inl rfl | exact Or.inr rfl) (pe_call (ok_law_letters T) (hr.mono (by decide)) rfl T.d_law_letters.mg T.d_law_letters.kp T.d_law_letters.b .nil pass0 (pa_cons (pv 1) (pa_cons pe_int pa_nil))))
      (pss_cons (ps_set (i := 9) sc_law.nd rfl (by first | exact Or.inl rfl | exact Or.inr rfl) (pe_call (ok_law_word T) (hr.mono (by decide)) rfl T.d_law_word.mg T.d_law_word.kp T.d_law_word.b .nil pass0 (pa_cons (pv 1) (pa_cons (pv 8) (pa_cons pe_int (pa_cons pe_int pa_nil))))))
      (pss_cons (ps_set (i := 5) sc_law.nd rfl (by first | exact Or.inl rfl | exact Or.inr rfl) (pe_call (ok_law_book T) (hr.mono (by decide)) rfl T.d_law_book.mg T.d_law_book.kp T.d_law_book.b .nil pass0 (pa_cons (pv 1) (pa_cons (pv 8) (pa_cons (pe_lst (pa_cons (pv 9) pa_nil)) (pa_cons (pe_op op_add pe_int (pe_call (ok_law_draw T) (hr.mono (by decide)) rfl T.d_law_draw.mg T.d_law_draw.kp T.d_law_draw.b .nil pass0 (pa_cons (pv 1) (pa_cons pe_int pa_nil)))) pa_nil))))))
      (pss_cons (ps_set (i := 10) sc_law.nd rfl (by first | exact Or.inl rfl | exact Or.inr rfl) (pe_slice sl_str (pe_ix (kx_list (K := K) rfl) (pe_call (ok_law_spoilt T) (hr.mono (by decide)) rfl T.d_law_spoilt.mg T.d_law_spoilt.kp T.d_law_spoilt.b .nil pass0 (pa_cons (pv 1) (pa_cons (pv 5) (pa_cons (pv 9) pa_nil)))) pe_int (fun _ _ => rfl)) po_none (po_some pe_int)))
      (pss_one (ps_ret (pe_call (ok_law_asked T) (hr.mono (by decide)) rfl T.d_law_asked.mg T.d_law_asked.kp T.d_law_asked.b .nil pass0 (pa_cons (pv 5) (pa_cons (pe_call (ok_law_tree T) (hr.mono (by decide)) rfl T.d_law_tree.mg T.d_law_tree.kp T.d_law_tree.b .nil pass0 (pa_cons (pe_lst (pa_cons (pv 9) pa_nil)) (pa_cons pe_bl pa_nil))) (pa_cons (pv 10) pa_nil))))))))))
      pss_nil)
    (pss_one (ps_ret pe_bl))))))))))))), ?_⟩
    refine ⟨_, rfl, sa, ns, rfl, hs, hlen, fun pp gg H1 e1 hp hg P1 => ?_⟩
    refine ⟨_, rfl, pp, gg, 3, rfl, P1, by omega, fun ls H2 f2 P2 hnd hll => ?_⟩
    obtain ⟨f, h, p, rfl⟩ : ∃ f h p, ls = [f, h, p] := by
      match ls, hll with
      | [f, h, p], _ => exact ⟨f, h, p, rfl⟩
    have hfh : f ≠ h := fun z => by rw [z] at hnd; simp at hnd
    have hfp : f ≠ p := fun z => by rw [z] at hnd; simp at hnd
    have hhp : h ≠ p := fun z => by rw [z] at hnd; simp at hnd
    refine ⟨[f, h, p], rfl, by show 3 ≤ 1000; omega, fun L hL => ?_⟩
    have gL := Fe.new (o := .lst ([f, h, p].map fun c => V.str ⟨#[c]⟩)) hL
    have P3 := P2.keep gL
    refine ⟨L, _, rfl, SqL.of upd_same, rfl, _, _, rfl, _, _, rfl, _, _, rfl, rfl, ?_⟩
    generalize upd H2 L (.lst ([f, h, p].map fun c => V.str ⟨#[c]⟩)) = H3 at P3 ⊢
    clear gL hL
    -- the first book and the machine
    refine ⟨_, rfl, _, rfl, _, _, rfl, rfl, sz2 _ _, _, rfl, _, _, rfl, rfl, sz3 _ _ _, _, rfl, _, rfl, _, _, rfl, rfl, sz2 _ _, _, rfl, by show 3 ≤ sizeLine; decide, fun E1 hE1 => ⟨by show 1 ≤ sizeLine; decide, fun ES hES => ⟨by show 2 ≤ sizeLine; decide, fun B hB => ?_⟩⟩⟩
    have k1 := Fe.new (o := .tup [.str (⟨#[p]⟩ ++ ⟨#[h]⟩), s1 f, .int 3]) hE1
    have k2 := Fe.new (o := .tup [.ref E1]) hES
    have k3 := Fe.new (o := .tup [.str (⟨#[f]⟩ ++ ⟨#[h]⟩ ++ ⟨#[p]⟩), .ref ES]) hB
    have hb1 : rBook _ (.ref B) (tb1 f h p) := ⟨B, _, _, rfl, upd_same (o := .tup [.str (⟨#[f]⟩ ++ ⟨#[h]⟩ ++ ⟨#[p]⟩), .ref ES]), congrArg V.str (s3_ f h p), ⟨ES, _, rfl, k3.k (upd_same (o := .tup [.ref E1])), .cons ⟨E1, _, _, _, rfl, k3.k (k2.k (upd_same (o := .tup [.str (⟨#[p]⟩ ++ ⟨#[h]⟩), s1 f, .int 3]))), congrArg V.str (s2_ p h), rfl, rfl⟩ .nil⟩⟩
    have P4 := ((P3.keep k1).keep k2).keep k3
    generalize upd (upd (upd H3 E1 _) ES _) B _ = H4 at hb1 P4 ⊢
    clear k1 k2 k3
    refine ⟨by show 1 ≤ sizeLine; decide, fun A hA => ⟨_, rfl, by show 3 ≤ sizeLine; decide, fun S1 hS1 => ⟨by show 1 ≤ sizeLine; decide, fun SS hSS => ⟨by show 3 ≤ sizeLine; decide, fun M hM => ?_⟩⟩⟩⟩
    have k1 := Fe.new (o := .tup [.int 1]) hA
    have k2 := Fe.new (o := .tup [.int 0, s1 f, .int 1]) hS1
    have k3 := Fe.new (o := .tup [.ref S1]) hSS
    have k4 := Fe.new (o := .tup [.int 2, .ref A, .ref SS]) hM
    have hm1 : rMach _ (.ref M) (tmm f) := ⟨M, _, _, _, rfl, upd_same (o := .tup [.int 2, .ref A, .ref SS]), rfl, ⟨A, _, rfl, k4.k (k3.k (k2.k (upd_same (o := .tup [.int 1])))), .cons rfl .nil⟩, ⟨SS, _, rfl, k4.k (upd_same (o := .tup [.ref S1])), .cons ⟨S1, _, _, _, rfl, k4.k (k3.k (upd_same (o := .tup [.int 0, s1 f, .int 1]))), rfl, rfl, rfl⟩ .nil⟩⟩
    have P5 := (((P4.keep k1).keep k2).keep k3).keep k4
    have hb1 := Mo.mo (r := rBook) (((k1.trans k2).trans k3).trans k4) hb1
    generalize upd (upd (upd (upd H4 A _) S1 _) SS _) M _ = H5 at hm1 P5 hb1 ⊢
    clear k1 k2 k3 k4
    have pok1 := tb1_pok hfh hfp hhp
    -- standings
    refine ⟨_, rfl, _, rfl, tb1 f h p, tmm f, .ref B, .ref M, rfl, hb1, hm1, pok1, fun H6 T1 ys rs e6 hT1 hrs al1 => ?_⟩
    have ers : rs = [[], [h]] := hrs.eq tb1_rests
    subst ers
    refine ⟨by show 2 ≤ sizeLine; decide, fun U1 hU1 => ⟨_, rfl, by show 2 ≤ sizeLine; decide, fun U2 hU2 => ⟨by show 2 ≤ sizeLine; decide, fun U3 hU3 => ⟨_, rfl, by show 2 ≤ sizeLine; decide, fun U4 hU4 => ⟨by show 4 ≤ sizeLine; decide, fun U hU => ?_⟩⟩⟩⟩⟩
    have k1 := Fe.new (o := .tup [.int 0, .str ""]) hU1
    have k2 := Fe.new (o := .tup [.int 0, s1 h]) hU2
    have k3 := Fe.new (o := .tup [.int 1, .str ""]) hU3
    have k4 := Fe.new (o := .tup [.int 1, s1 h]) hU4
    have k5 := Fe.new (o := .tup [.ref U1, .ref U2, .ref U3, .ref U4]) hU
    have kA := (((k1.trans k2).trans k3).trans k4).trans k5
    have alU : Al (rP rN rS) (upd (upd (upd (upd (upd H6 U1 (.tup [.int 0, .str ""])) U2 (.tup [.int 0, s1 h])) U3 (.tup [.int 1, .str ""])) U4 (.tup [.int 1, s1 h])) U (.tup [.ref U1, .ref U2, .ref U3, .ref U4])) [V.ref U1, V.ref U2, V.ref U3, V.ref U4] ([(0, []), (0, [h]), (1, []), (1, [h])] : List Stg) :=
      .cons ⟨U1, _, _, rfl, (((k2.trans k3).trans k4).trans k5).k (upd_same (o := .tup [.int 0, .str ""])), rfl, rfl⟩ (.cons ⟨U2, _, _, rfl, ((k3.trans k4).trans k5).k (upd_same (o := .tup [.int 0, s1 h])), rfl, rfl⟩ (.cons ⟨U3, _, _, rfl, (k4.trans k5).k (upd_same (o := .tup [.int 1, .str ""])), rfl, rfl⟩ (.cons ⟨U4, _, _, rfl, k5.k (upd_same (o := .tup [.int 1, s1 h])), rfl, rfl⟩ .nil)))
    have P7 := (P5.keep e6).keep kA
    have hb1 := Mo.mo (r := rBook) (e6.trans kA) hb1
    have hm1 := Mo.mo (r := rMach) (e6.trans kA) hm1
    have al1 := Al.mo kA al1
    have hT1 := kA.k hT1
    have hUv := upd_same (H := upd (upd (upd (upd H6 U1 (.tup [.int 0, .str ""])) U2 (.tup [.int 0, s1 h])) U3 (.tup [.int 1, .str ""])) U4 (.tup [.int 1, s1 h])) (a := U) (o := .tup [.ref U1, .ref U2, .ref U3, .ref U4])
    clear k1 k2 k3 k4 k5
    generalize upd (upd (upd (upd (upd H6 U1 _) U2 _) U3 _) U4 _) U _ = H7 at P7 hb1 hm1 al1 hT1 hUv alU kA ⊢
    refine .inr (.inr ⟨.ref T1, .ref U, rfl, ⟨T1, U, _, _, rfl, rfl, hT1, hUv, sts_same al1 alU⟩, fun H8 e8 => ⟨_, rfl, iteF ?_⟩⟩)
    have P8 := P7.keep e8
    have hb1 := Mo.mo (r := rBook) e8 hb1
    have hm1 := Mo.mo (r := rMach) e8 hm1
    have lp : ∀ x ∈ [p], x ∈ (tb1 f h p).1 := fun x hx => by rw [List.mem_singleton.mp hx]; show p ∈ [f, h, p]; simp
    have lph : ∀ x ∈ [p, h], x ∈ (tb1 f h p).1 := fun x hx => by
      show x ∈ [f, h, p]
      simp at hx ⊢
      rcases hx with rfl | rfl <;> simp
    have lf : ∀ x ∈ [f], x ∈ (tb1 f h p).1 := fun x hx => by rw [List.mem_singleton.mp hx]; show f ∈ [f, h, p]; simp
    -- the row of costs
    refine ⟨_, rfl, _, rfl, _, rfl, tb1 f h p, tmm f, [p], .ref B, .ref M, rfl, hb1, hm1, pok1, lp, fun H9 T2 row rs2 e9 hT2 hrs2 hrow hstd => ?_⟩
    have ers2 : rs2 = [[], [h]] := hrs2.eq tb1_rests
    subst ers2
    have erow := row_p hfh hfp hhp hrow hstd
    subst erow
    refine ⟨by show 4 ≤ sizeLine; decide, fun U5 hU5 => ?_⟩
    have k5 := Fe.new (o := .tup [.non, .non, .non, .int 3]) hU5
    refine .inr (.inl ⟨.ref T2, .ref U5, rfl, ⟨T2, U5, _, _, rfl, rfl, k5.k hT2, upd_same, oV_same [none, none, none, some 3]⟩, fun H10 e10 => ⟨_, rfl, iteF ?_⟩⟩)
    have P10 := ((P8.keep e9).keep k5).keep e10
    have hb1 := Mo.mo (r := rBook) ((e9.trans k5).trans e10) hb1
    have hm1 := Mo.mo (r := rMach) ((e9.trans k5).trans e10) hm1
    refine ⟨_, rfl, _, rfl, _, rfl, tb1 f h p, tmm f, [p], .ref B, .ref M, rfl, hb1, hm1, pok1, lp, fun H11 e11 => ⟨rfl, _, rfl, ?_⟩⟩
    rw [mend_p hfh hfp hhp]
    refine iteF ?_
    have P11 := P10.keep e11
    have hb1 := Mo.mo (r := rBook) e11 hb1
    have hm1 := Mo.mo (r := rMach) e11 hm1
    refine ⟨_, rfl, _, rfl, _, rfl, _, rfl, _, _, rfl, rfl, sz2 _ _, tb1 f h p, tmm f, [p, h], .ref B, .ref M, congrArg (fun z => [V.ref B, V.ref M, V.str z]) (s2_ p h), hb1, hm1, pok1, lph, fun H12 e12 => .inl ⟨_, _, rfl, ⟨oV_sc _, by rw [mend_ph hfh hfp hhp]; rfl⟩, fun H13 e13 => ⟨_, rfl, iteF ?_⟩⟩⟩
    have P13 := (P11.keep e12).keep e13
    have hb1 := Mo.mo (r := rBook) (e12.trans e13) hb1
    have hm1 := Mo.mo (r := rMach) (e12.trans e13) hm1
    refine ⟨_, rfl, _, rfl, _, rfl, tb1 f h p, tmm f, [f], .ref B, .ref M, rfl, hb1, hm1, pok1, lf, fun H14 e14 => .inl ⟨_, _, rfl, ⟨oV_sc _, by rw [mend_f hfh hfp hhp]; rfl⟩, fun H15 e15 => ⟨_, rfl, iteF ?_⟩⟩⟩
    have P15 := (P13.keep e14).keep e15
    clear hb1 hm1 al1 hT1 hUv alU hT2 hrs hrs2 hstd hrow
    -- the second book
    refine ⟨_, rfl, _, rfl, _, _, rfl, rfl, sz2 _ _, _, rfl, _, _, rfl, rfl, sz3 _ _ _, _, rfl, _, rfl, by show 3 ≤ sizeLine; decide, fun F1 hF1 => ?_⟩
    refine ⟨_, rfl, _, rfl, _, _, rfl, rfl, sz2 _ _, _, rfl, by show 3 ≤ sizeLine; decide, fun F2 hF2 => ⟨by show 2 ≤ sizeLine; decide, fun FS hFS => ⟨by show 2 ≤ sizeLine; decide, fun B2 hB2 => ?_⟩⟩⟩
    have k1 := Fe.new (o := .tup [s1 f, s1 h, .int 1]) hF1
    have k2 := Fe.new (o := .tup [.str (⟨#[p]⟩ ++ ⟨#[h]⟩), s1 f, .int 3]) hF2
    have k3 := Fe.new (o := .tup [.ref F1, .ref F2]) hFS
    have k4 := Fe.new (o := .tup [.str (⟨#[f]⟩ ++ ⟨#[h]⟩ ++ ⟨#[p]⟩), .ref FS]) hB2
    have hb2 : rBook _ (.ref B2) (tb2 f h p) := ⟨B2, _, _, rfl, upd_same (o := .tup [.str (⟨#[f]⟩ ++ ⟨#[h]⟩ ++ ⟨#[p]⟩), .ref FS]), congrArg V.str (s3_ f h p), ⟨FS, _, rfl, k4.k (upd_same (o := .tup [.ref F1, .ref F2])), .cons ⟨F1, _, _, _, rfl, k4.k (k3.k (k2.k (upd_same (o := .tup [s1 f, s1 h, .int 1])))), rfl, rfl, rfl⟩ (.cons ⟨F2, _, _, _, rfl, k4.k (k3.k (upd_same (o := .tup [.str (⟨#[p]⟩ ++ ⟨#[h]⟩), s1 f, .int 3]))), congrArg V.str (s2_ p h), rfl, rfl⟩ .nil)⟩⟩
    have P16 := (((P15.keep k1).keep k2).keep k3).keep k4
    generalize upd (upd (upd (upd H15 F1 _) F2 _) FS _) B2 _ = H16 at hb2 P16 ⊢
    clear k1 k2 k3 k4
    have ne2 := tb2_ne (f := f) (h := h) (p := p) hfh
    have fw2 : ∀ e ∈ (tb2 f h p).2, e.1.length ≤ 500 ∧ e.2.1.length ≤ 500 := fun e he => by
      have : e = ([f], [h], 1) ∨ e = ([p, h], [f], 3) := by simpa [tb2] using he
      rcases this with rfl | rfl
      · exact ⟨by show 1 ≤ 500; omega, by show 1 ≤ 500; omega⟩
      · exact ⟨by show 2 ≤ 500; omega, by show 1 ≤ 500; omega⟩
    refine ⟨_, rfl, _, rfl, _, rfl, _, _, rfl, rfl, sz2 _ _, _, rfl, tb2 f h p, [p, h], [h], .ref B2, congrArg (fun z => [V.ref B2, V.str z, s1 h]) (s2_ p h), hb2, ne2, by show 2 ≤ 100; omega, by show 3 ≤ 100; omega, by show 2 ≤ 500; omega, by show 1 ≤ 500; omega, fw2, fun H17 e17 => ⟨rfl, _, rfl, ?_⟩⟩
    rw [dst_a hfh hfp hhp]
    refine iteF ?_
    have P17 := P16.keep e17
    have hb2 := Mo.mo (r := rBook) e17 hb2
    refine ⟨_, rfl, _, rfl, _, rfl, _, _, rfl, rfl, sz2 _ _, _, rfl, _, _, rfl, rfl, sz3 _ _ _, _, rfl, _, rfl, _, _, rfl, rfl, sz2 _ _, tb2 f h p, [p, h, f], [f, h], .ref B2, ?_, hb2, ne2, by show 2 ≤ 100; omega, by show 3 ≤ 100; omega, by show 3 ≤ 500; omega, by show 2 ≤ 500; omega, fw2, fun H18 e18 => .inl ⟨_, _, rfl, ⟨oV_sc _, by rw [dst_b hfh hfp hhp]; rfl⟩, fun H19 e19 => ⟨_, rfl, iteF ?_⟩⟩⟩
    · show [V.ref B2, V.str (⟨#[p]⟩ ++ ⟨#[h]⟩ ++ ⟨#[f]⟩), V.str (⟨#[f]⟩ ++ ⟨#[h]⟩)] = _
      rw [s3_, s2_]
    have P19 := (P17.keep e18).keep e19
    clear P17 hb2 P16 P15 P13 P11 P10 P8 P7 P5 P4 P3 P2 P1
    -- laps
    refine ⟨_, rfl, by decide, by decide, for_range (lo := 0) (n := 3) (fun i σ' H' => ∃ o7 : Option V, σ' = [some (.ref sa), some (.ref pp), some (s1 f), some (s1 h), some (s1 p), some (.ref B2), some (.ref M), o7, none, none, none] ∧ Pl H' pp gg) ⟨_, rfl, P19⟩ ?_ ?_⟩
    · rintro i σ' H3 hi ⟨o7, rfl, P3⟩
      exact ⟨_, rfl, pp, gg, rfl, P3, fun H' _ P' => ⟨_, rfl, iteF ⟨_, rfl, P'⟩⟩⟩
    · rintro σ' H3 ⟨o7, rfl, P3⟩
      refine ⟨_, rfl, pp, gg, 11, rfl, P3, by decide, by decide, fun r H4 f4 P4 _ => ⟨rfl, _, rfl, ?_⟩⟩
      refine ite2 (fun _ => ?_) (fun _ => kk _)
      refine ⟨_, rfl, pp, gg, 2, rfl, P4, by omega, fun ls H5 f5 P5 hnd2 hll2 => ?_⟩
      obtain ⟨a, c, rfl⟩ : ∃ a c, ls = [a, c] := by
        match ls, hll2 with
        | [a, c], _ => exact ⟨a, c, rfl⟩
      refine ⟨_, rfl, _, rfl, pp, gg, [a, c], 20, 39, rfl, P5, (fun z => nomatch z), by show 2 ≤ 1000; omega, by decide, by decide, fun wd H6 f6 P6 hwd h20 h39 => ?_⟩
      have hwne : wd ≠ [] := fun z => by rw [z] at h20; have : ([] : List Nat).length = 0 := rfl; omega
      refine ⟨_, rfl, _, rfl, _, rfl, by show 1 ≤ sizeLine; decide, fun W hW => ?_⟩
      have gW := Fe.new (o := .lst [.str ⟨wd.toArray⟩]) hW
      have nW := P6.nw hW
      have P7 := P6.keep gW
      have hWv := upd_same (H := H6) (a := W) (o := .lst [.str ⟨wd.toArray⟩])
      generalize upd H6 W (.lst [.str ⟨wd.toArray⟩]) = H7 at P7 hWv ⊢
      refine ⟨_, rfl, pp, gg, 21, rfl, P7, by omega, by omega, fun r8 H8 f8 P8 hr8 => ⟨_, _, rfl, rfl, pp, gg, [a, c], [wd], .ref W, 20 + r8, congrArg (fun z => [V.ref pp, V.str ⟨[a, c].toArray⟩, V.ref W, V.int z]) (show ((20 : Int) + (r8 : Int)) = ((20 + r8 : Nat) : Int) by omega), P8, (fun z => nomatch z), by show 2 ≤ 20; omega, ⟨W, _, rfl, f8.keep _ _ nW hWv, .cons rfl .nil, nW⟩, (fun z => nomatch z), by show 1 ≤ 5; omega, fun w hw => by rw [List.mem_singleton.mp hw]; exact ⟨hwne, h39⟩, by omega, fun vb es H9 f9 P9 hb bok bne hel => ?_⟩⟩
      have hel : es.length ≤ 40 := by omega
      refine ⟨_, rfl, _, rfl, _, rfl, pp, gg, ([a, c], es), vb, wd, rfl, P9, hb, bok, hwd, by omega, fun q t cc H10 f10 P10 nq hq htr htls htlen => ?_⟩
      have hb10 := Mo.mo (r := rBook) f10 hb
      refine ⟨q, _, _, _, rfl, rfl, SqL.of hq, atI_nat (j := 0) rfl, _, rfl, _, rfl, by rw [slen, sizeLine_eq]; omega, ?_⟩
      rw [cut_to40 t]
      refine ⟨_, rfl, _, rfl, by show 1 ≤ sizeLine; decide, fun W2 hW2 => ?_⟩
      have gW2 := Fe.new (o := .lst [.str ⟨wd.toArray⟩]) hW2
      have hb11 := Mo.mo (r := rBook) gW2 hb10
      have hW2v := upd_same (H := H10) (a := W2) (o := .lst [.str ⟨wd.toArray⟩])
      generalize upd H10 W2 (.lst [.str ⟨wd.toArray⟩]) = H11 at hb11 hW2v ⊢
      refine ⟨[wd], [a, c], false, .ref W2, rfl, ⟨W2, _, rfl, hW2v, .cons rfl .nil⟩, by show 1 ≤ 5; omega, (fun z => nomatch z), by show wd.length + 0 ≤ 39; omega, fun w hw => by rw [List.mem_singleton.mp hw]; exact ⟨hwne, hwd⟩, fun vm m H12 e12 hm mok hm40 hml hms44 hma10 _ => ?_⟩
      refine ⟨_, rfl, ([a, c], es), m, t.take 40, vb, vm, rfl, Mo.mo (r := rBook) e12 hb11, hm, ⟨bok, mok, by omega, hnd2, hml, rsb_2 bok⟩, by omega, fun x hx => htls x (List.mem_of_mem_take hx), by rw [List.length_take]; omega, fun H13 e13 => kk H13⟩
end
end Fm
/-! what the top has written, and the law's walk -/
namespace Fm
open PySem L2
theorem all_mk {l : PySem.W.OpenLaw} {w : World} {K : PySem.W.Frag} {h : Heap} {mg : Str → Option Value} {fa c_MoveWeb f_steps_by_state f_states_behind f_states_along f_rests_of f_MoveWeb_init f_MoveWeb_put_moves f_MoveWeb_put_edits f_MoveWeb_is_end f_MoveWeb_ends f_MoveWeb_closed f_MoveWeb_begun f_MoveWeb_behind f_MoveWeb_along f_MoveWeb_least_end f_least_of f_standings_of f_cost_row f_pair_moves f_costs_ahead f_distance_of f_mend_distance f_law_pool f_law_draw f_law_ops f_law_ahead f_law_same f_law_letters f_law_word f_law_tree f_law_book f_law_spoilt f_law_due_row f_law_rests f_law_asked f_law_table f_law_words_hold f_law : Addr} (X : K.In h) (G : h.Ns mainGlobals mg) (hfa : mg "law" = some (.ref fa))
    {od_steps_by_state an_steps_by_state od_states_behind an_states_behind od_states_along an_states_along od_rests_of an_rests_of od_MoveWeb_init an_MoveWeb_init od_MoveWeb_put_moves an_MoveWeb_put_moves od_MoveWeb_put_edits an_MoveWeb_put_edits od_MoveWeb_is_end an_MoveWeb_is_end od_MoveWeb_ends an_MoveWeb_ends od_MoveWeb_closed an_MoveWeb_closed od_MoveWeb_begun an_MoveWeb_begun od_MoveWeb_behind an_MoveWeb_behind od_MoveWeb_along an_MoveWeb_along od_MoveWeb_least_end an_MoveWeb_least_end od_least_of an_least_of od_standings_of an_standings_of od_cost_row an_cost_row od_pair_moves an_pair_moves od_costs_ahead an_costs_ahead od_distance_of an_distance_of od_mend_distance an_mend_distance od_law_pool an_law_pool od_law_draw an_law_draw od_law_ops an_law_ops od_law_ahead an_law_ahead od_law_same an_law_same od_law_letters an_law_letters od_law_word an_law_word od_law_tree an_law_tree od_law_book an_law_book od_law_spoilt an_law_spoilt od_law_due_row an_law_due_row od_law_rests an_law_rests od_law_asked an_law_asked od_law_table an_law_table od_law_words_hold an_law_words_hold od_law an_law : Option Addr} {sl_steps_by_state sl_states_behind sl_states_along sl_rests_of sl_MoveWeb_init sl_MoveWeb_put_moves sl_MoveWeb_put_edits sl_MoveWeb_is_end sl_MoveWeb_ends sl_MoveWeb_closed sl_MoveWeb_begun sl_MoveWeb_behind sl_MoveWeb_along sl_MoveWeb_least_end sl_least_of sl_standings_of sl_cost_row sl_pair_moves sl_costs_ahead sl_distance_of sl_mend_distance sl_law_pool sl_law_draw sl_law_ops sl_law_ahead sl_law_same sl_law_letters sl_law_word sl_law_tree sl_law_book sl_law_spoilt sl_law_due_row sl_law_rests sl_law_asked sl_law_table sl_law_words_hold sl_law : Array (Option Value)}
    {oc_steps_by_state kV_steps_by_state dc_steps_by_state pm_steps_by_state cd_steps_by_state ct_steps_by_state oc_states_behind kV_states_behind dc_states_behind pm_states_behind cd_states_behind ct_states_behind oc_states_along kV_states_along dc_states_along pm_states_along cd_states_along ct_states_along oc_rests_of kV_rests_of dc_rests_of pm_rests_of cd_rests_of ct_rests_of oc_MoveWeb_init kV_MoveWeb_init dc_MoveWeb_init pm_MoveWeb_init cd_MoveWeb_init ct_MoveWeb_init oc_MoveWeb_put_moves kV_MoveWeb_put_moves dc_MoveWeb_put_moves pm_MoveWeb_put_moves cd_MoveWeb_put_moves ct_MoveWeb_put_moves oc_MoveWeb_put_edits kV_MoveWeb_put_edits dc_MoveWeb_put_edits pm_MoveWeb_put_edits cd_MoveWeb_put_edits ct_MoveWeb_put_edits oc_MoveWeb_is_end kV_MoveWeb_is_end dc_MoveWeb_is_end pm_MoveWeb_is_end cd_MoveWeb_is_end ct_MoveWeb_is_end oc_MoveWeb_ends kV_MoveWeb_ends dc_MoveWeb_ends pm_MoveWeb_ends cd_MoveWeb_ends ct_MoveWeb_ends oc_MoveWeb_closed kV_MoveWeb_closed dc_MoveWeb_closed pm_MoveWeb_closed cd_MoveWeb_closed ct_MoveWeb_closed oc_MoveWeb_begun kV_MoveWeb_begun dc_MoveWeb_begun pm_MoveWeb_begun cd_MoveWeb_begun ct_MoveWeb_begun oc_MoveWeb_behind kV_MoveWeb_behind dc_MoveWeb_behind pm_MoveWeb_behind cd_MoveWeb_behind ct_MoveWeb_behind oc_MoveWeb_along kV_MoveWeb_along dc_MoveWeb_along pm_MoveWeb_along cd_MoveWeb_along ct_MoveWeb_along oc_MoveWeb_least_end kV_MoveWeb_least_end dc_MoveWeb_least_end pm_MoveWeb_least_end cd_MoveWeb_least_end ct_MoveWeb_least_end oc_least_of kV_least_of dc_least_of pm_least_of cd_least_of ct_least_of oc_standings_of kV_standings_of dc_standings_of pm_standings_of cd_standings_of ct_standings_of oc_cost_row kV_cost_row dc_cost_row pm_cost_row cd_cost_row ct_cost_row oc_pair_moves kV_pair_moves dc_pair_moves pm_pair_moves cd_pair_moves ct_pair_moves oc_costs_ahead kV_costs_ahead dc_costs_ahead pm_costs_ahead cd_costs_ahead ct_costs_ahead oc_distance_of kV_distance_of dc_distance_of pm_distance_of cd_distance_of ct_distance_of oc_mend_distance kV_mend_distance dc_mend_distance pm_mend_distance cd_mend_distance ct_mend_distance oc_law_pool kV_law_pool dc_law_pool pm_law_pool cd_law_pool ct_law_pool oc_law_draw kV_law_draw dc_law_draw pm_law_draw cd_law_draw ct_law_draw oc_law_ops kV_law_ops dc_law_ops pm_law_ops cd_law_ops ct_law_ops oc_law_ahead kV_law_ahead dc_law_ahead pm_law_ahead cd_law_ahead ct_law_ahead oc_law_same kV_law_same dc_law_same pm_law_same cd_law_same ct_law_same oc_law_letters kV_law_letters dc_law_letters pm_law_letters cd_law_letters ct_law_letters oc_law_word kV_law_word dc_law_word pm_law_word cd_law_word ct_law_word oc_law_tree kV_law_tree dc_law_tree pm_law_tree cd_law_tree ct_law_tree oc_law_book kV_law_book dc_law_book pm_law_book cd_law_book ct_law_book oc_law_spoilt kV_law_spoilt dc_law_spoilt pm_law_spoilt cd_law_spoilt ct_law_spoilt oc_law_due_row kV_law_due_row dc_law_due_row pm_law_due_row cd_law_due_row ct_law_due_row oc_law_rests kV_law_rests dc_law_rests pm_law_rests cd_law_rests ct_law_rests oc_law_asked kV_law_asked dc_law_asked pm_law_asked cd_law_asked ct_law_asked oc_law_table kV_law_table dc_law_table pm_law_table cd_law_table ct_law_table oc_law_words_hold kV_law_words_hold dc_law_words_hold pm_law_words_hold cd_law_words_hold ct_law_words_hold oc_law kV_law dc_law pm_law cd_law ct_law : Value}
    (z_len : PySem.W.nsIn K mainGlobals "len" = some none)
    (z_range : PySem.W.nsIn K mainGlobals "range" = some none)
    (z_enumerate : PySem.W.nsIn K mainGlobals "enumerate" = some none)
    (z_zip : PySem.W.nsIn K mainGlobals "zip" = some none)
    (z_reversed : PySem.W.nsIn K mainGlobals "reversed" = some none)
    (z_list : PySem.W.nsIn K mainGlobals "list" = some none)
    (z_tuple : PySem.W.nsIn K mainGlobals "tuple" = some none)
    (z_sorted : PySem.W.nsIn K mainGlobals "sorted" = some none)
    (z_min : PySem.W.nsIn K mainGlobals "min" = some none)
    (z_max : PySem.W.nsIn K mainGlobals "max" = some none)
    (z_set : PySem.W.nsIn K mainGlobals "set" = some none)
    (z_int : PySem.W.nsIn K mainGlobals "int" = some none)
    (z_str : PySem.W.nsIn K mainGlobals "str" = some none)
    (z_isinstance : PySem.W.nsIn K mainGlobals "isinstance" = some none)
    (z_bool : PySem.W.nsIn K mainGlobals "bool" = some none)
    (g_MoveWeb : PySem.W.nsIn K mainGlobals "MoveWeb" = some (some (.ref c_MoveWeb)))
    (pg_MoveWeb : PySem.W.plainGet K c_MoveWeb Str.empty = true)
    (hd_MoveWeb : PySem.W.hasDictIn K c_MoveWeb = true)
    (po_MoveWeb : PySem.W.plainOver K c_MoveWeb = true)
    (sa_MoveWeb : PySem.W.findIn K (.ref c_MoveWeb) "__setattr__" = some (some (.builtin "object.__setattr__")))
    (mks_MoveWeb : PySem.W.makesIn K c_MoveWeb = true)
    (kc_MoveWeb : PySem.W.keepIn K (.ref c_MoveWeb) = true)
    (na_MoveWeb_book : PySem.W.findIn K (.ref c_MoveWeb) "book" = some none)
    (na_MoveWeb_machine : PySem.W.findIn K (.ref c_MoveWeb) "machine" = some none)
    (na_MoveWeb_standings : PySem.W.findIn K (.ref c_MoveWeb) "standings" = some none)
    (na_MoveWeb_homes : PySem.W.findIn K (.ref c_MoveWeb) "homes" = some none)
    (na_MoveWeb_silent : PySem.W.findIn K (.ref c_MoveWeb) "silent" = some none)
    (na_MoveWeb_reading : PySem.W.findIn K (.ref c_MoveWeb) "reading" = some none)
    (a_steps_by_state : PySem.W.nsIn K mainGlobals "steps_by_state" = some (some (.ref f_steps_by_state)))
    (l_steps_by_state : K.lookup f_steps_by_state = some ⟨oc_steps_by_state, od_steps_by_state, .func (PySem.W.fnOf "steps_by_state" "steps_by_state" (defArgs s_steps_by_state) (defBody s_steps_by_state) (defScope s_steps_by_state) .none kV_steps_by_state dc_steps_by_state pm_steps_by_state an_steps_by_state cd_steps_by_state ct_steps_by_state), sl_steps_by_state⟩)
    (k_steps_by_state : PySem.W.codeIn K cd_steps_by_state "steps_by_state" = true)
    (p_steps_by_state : PySem.W.keepIn K (.ref f_steps_by_state) = true)
    (a_states_behind : PySem.W.nsIn K mainGlobals "states_behind" = some (some (.ref f_states_behind)))
    (l_states_behind : K.lookup f_states_behind = some ⟨oc_states_behind, od_states_behind, .func (PySem.W.fnOf "states_behind" "states_behind" (defArgs s_states_behind) (defBody s_states_behind) (defScope s_states_behind) .none kV_states_behind dc_states_behind pm_states_behind an_states_behind cd_states_behind ct_states_behind), sl_states_behind⟩)
    (k_states_behind : PySem.W.codeIn K cd_states_behind "states_behind" = true)
    (p_states_behind : PySem.W.keepIn K (.ref f_states_behind) = true)
    (a_states_along : PySem.W.nsIn K mainGlobals "states_along" = some (some (.ref f_states_along)))
    (l_states_along : K.lookup f_states_along = some ⟨oc_states_along, od_states_along, .func (PySem.W.fnOf "states_along" "states_along" (defArgs s_states_along) (defBody s_states_along) (defScope s_states_along) .none kV_states_along dc_states_along pm_states_along an_states_along cd_states_along ct_states_along), sl_states_along⟩)
    (k_states_along : PySem.W.codeIn K cd_states_along "states_along" = true)
    (p_states_along : PySem.W.keepIn K (.ref f_states_along) = true)
    (a_rests_of : PySem.W.nsIn K mainGlobals "rests_of" = some (some (.ref f_rests_of)))
    (l_rests_of : K.lookup f_rests_of = some ⟨oc_rests_of, od_rests_of, .func (PySem.W.fnOf "rests_of" "rests_of" (defArgs s_rests_of) (defBody s_rests_of) (defScope s_rests_of) .none kV_rests_of dc_rests_of pm_rests_of an_rests_of cd_rests_of ct_rests_of), sl_rests_of⟩)
    (k_rests_of : PySem.W.codeIn K cd_rests_of "rests_of" = true)
    (p_rests_of : PySem.W.keepIn K (.ref f_rests_of) = true)
    (a_MoveWeb_init : PySem.W.findIn K (.ref c_MoveWeb) "__init__" = some (some (.ref f_MoveWeb_init)))
    (i_MoveWeb_init : PySem.W.isFn K (.ref f_MoveWeb_init) = true)
    (l_MoveWeb_init : K.lookup f_MoveWeb_init = some ⟨oc_MoveWeb_init, od_MoveWeb_init, .func (PySem.W.fnOf "__init__" "MoveWeb.__init__" (defArgs s_MoveWeb_init) (defBody s_MoveWeb_init) (defScope s_MoveWeb_init) .none kV_MoveWeb_init dc_MoveWeb_init pm_MoveWeb_init an_MoveWeb_init cd_MoveWeb_init ct_MoveWeb_init), sl_MoveWeb_init⟩)
    (k_MoveWeb_init : PySem.W.codeIn K cd_MoveWeb_init "MoveWeb.__init__" = true)
    (p_MoveWeb_init : PySem.W.keepIn K (.ref f_MoveWeb_init) = true)
    (a_MoveWeb_put_moves : PySem.W.findIn K (.ref c_MoveWeb) "put_moves" = some (some (.ref f_MoveWeb_put_moves)))
    (i_MoveWeb_put_moves : PySem.W.isFn K (.ref f_MoveWeb_put_moves) = true)
    (l_MoveWeb_put_moves : K.lookup f_MoveWeb_put_moves = some ⟨oc_MoveWeb_put_moves, od_MoveWeb_put_moves, .func (PySem.W.fnOf "put_moves" "MoveWeb.put_moves" (defArgs s_MoveWeb_put_moves) (defBody s_MoveWeb_put_moves) (defScope s_MoveWeb_put_moves) .none kV_MoveWeb_put_moves dc_MoveWeb_put_moves pm_MoveWeb_put_moves an_MoveWeb_put_moves cd_MoveWeb_put_moves ct_MoveWeb_put_moves), sl_MoveWeb_put_moves⟩)
    (k_MoveWeb_put_moves : PySem.W.codeIn K cd_MoveWeb_put_moves "MoveWeb.put_moves" = true)
    (p_MoveWeb_put_moves : PySem.W.keepIn K (.ref f_MoveWeb_put_moves) = true)
    (a_MoveWeb_put_edits : PySem.W.findIn K (.ref c_MoveWeb) "put_edits" = some (some (.ref f_MoveWeb_put_edits)))
    (i_MoveWeb_put_edits : PySem.W.isFn K (.ref f_MoveWeb_put_edits) = true)
    (l_MoveWeb_put_edits : K.lookup f_MoveWeb_put_edits = some ⟨oc_MoveWeb_put_edits, od_MoveWeb_put_edits, .func (PySem.W.fnOf "put_edits" "MoveWeb.put_edits" (defArgs s_MoveWeb_put_edits) (defBody s_MoveWeb_put_edits) (defScope s_MoveWeb_put_edits) .none kV_MoveWeb_put_edits dc_MoveWeb_put_edits pm_MoveWeb_put_edits an_MoveWeb_put_edits cd_MoveWeb_put_edits ct_MoveWeb_put_edits), sl_MoveWeb_put_edits⟩)
    (k_MoveWeb_put_edits : PySem.W.codeIn K cd_MoveWeb_put_edits "MoveWeb.put_edits" = true)
    (p_MoveWeb_put_edits : PySem.W.keepIn K (.ref f_MoveWeb_put_edits) = true)
    (a_MoveWeb_is_end : PySem.W.findIn K (.ref c_MoveWeb) "is_end" = some (some (.ref f_MoveWeb_is_end)))
    (i_MoveWeb_is_end : PySem.W.isFn K (.ref f_MoveWeb_is_end) = true)
    (l_MoveWeb_is_end : K.lookup f_MoveWeb_is_end = some ⟨oc_MoveWeb_is_end, od_MoveWeb_is_end, .func (PySem.W.fnOf "is_end" "MoveWeb.is_end" (defArgs s_MoveWeb_is_end) (defBody s_MoveWeb_is_end) (defScope s_MoveWeb_is_end) .none kV_MoveWeb_is_end dc_MoveWeb_is_end pm_MoveWeb_is_end an_MoveWeb_is_end cd_MoveWeb_is_end ct_MoveWeb_is_end), sl_MoveWeb_is_end⟩)
    (k_MoveWeb_is_end : PySem.W.codeIn K cd_MoveWeb_is_end "MoveWeb.is_end" = true)
    (p_MoveWeb_is_end : PySem.W.keepIn K (.ref f_MoveWeb_is_end) = true)
    (a_MoveWeb_ends : PySem.W.findIn K (.ref c_MoveWeb) "ends" = some (some (.ref f_MoveWeb_ends)))
    (i_MoveWeb_ends : PySem.W.isFn K (.ref f_MoveWeb_ends) = true)
    (l_MoveWeb_ends : K.lookup f_MoveWeb_ends = some ⟨oc_MoveWeb_ends, od_MoveWeb_ends, .func (PySem.W.fnOf "ends" "MoveWeb.ends" (defArgs s_MoveWeb_ends) (defBody s_MoveWeb_ends) (defScope s_MoveWeb_ends) .none kV_MoveWeb_ends dc_MoveWeb_ends pm_MoveWeb_ends an_MoveWeb_ends cd_MoveWeb_ends ct_MoveWeb_ends), sl_MoveWeb_ends⟩)
    (k_MoveWeb_ends : PySem.W.codeIn K cd_MoveWeb_ends "MoveWeb.ends" = true)
    (p_MoveWeb_ends : PySem.W.keepIn K (.ref f_MoveWeb_ends) = true)
    (a_MoveWeb_closed : PySem.W.findIn K (.ref c_MoveWeb) "closed" = some (some (.ref f_MoveWeb_closed)))
    (i_MoveWeb_closed : PySem.W.isFn K (.ref f_MoveWeb_closed) = true)
    (l_MoveWeb_closed : K.lookup f_MoveWeb_closed = some ⟨oc_MoveWeb_closed, od_MoveWeb_closed, .func (PySem.W.fnOf "closed" "MoveWeb.closed" (defArgs s_MoveWeb_closed) (defBody s_MoveWeb_closed) (defScope s_MoveWeb_closed) .none kV_MoveWeb_closed dc_MoveWeb_closed pm_MoveWeb_closed an_MoveWeb_closed cd_MoveWeb_closed ct_MoveWeb_closed), sl_MoveWeb_closed⟩)
    (k_MoveWeb_closed : PySem.W.codeIn K cd_MoveWeb_closed "MoveWeb.closed" = true)
    (p_MoveWeb_closed : PySem.W.keepIn K (.ref f_MoveWeb_closed) = true)
    (a_MoveWeb_begun : PySem.W.findIn K (.ref c_MoveWeb) "begun" = some (some (.ref f_MoveWeb_begun)))
    (i_MoveWeb_begun : PySem.W.isFn K (.ref f_MoveWeb_begun) = true)
    (l_MoveWeb_begun : K.lookup f_MoveWeb_begun = some ⟨oc_MoveWeb_begun, od_MoveWeb_begun, .func (PySem.W.fnOf "begun" "MoveWeb.begun" (defArgs s_MoveWeb_begun) (defBody s_MoveWeb_begun) (defScope s_MoveWeb_begun) .none kV_MoveWeb_begun dc_MoveWeb_begun pm_MoveWeb_begun an_MoveWeb_begun cd_MoveWeb_begun ct_MoveWeb_begun), sl_MoveWeb_begun⟩)
    (k_MoveWeb_begun : PySem.W.codeIn K cd_MoveWeb_begun "MoveWeb.begun" = true)
    (p_MoveWeb_begun : PySem.W.keepIn K (.ref f_MoveWeb_begun) = true)
    (a_MoveWeb_behind : PySem.W.findIn K (.ref c_MoveWeb) "behind" = some (some (.ref f_MoveWeb_behind)))
    (i_MoveWeb_behind : PySem.W.isFn K (.ref f_MoveWeb_behind) = true)
    (l_MoveWeb_behind : K.lookup f_MoveWeb_behind = some ⟨oc_MoveWeb_behind, od_MoveWeb_behind, .func (PySem.W.fnOf "behind" "MoveWeb.behind" (defArgs s_MoveWeb_behind) (defBody s_MoveWeb_behind) (defScope s_MoveWeb_behind) .none kV_MoveWeb_behind dc_MoveWeb_behind pm_MoveWeb_behind an_MoveWeb_behind cd_MoveWeb_behind ct_MoveWeb_behind), sl_MoveWeb_behind⟩)
    (k_MoveWeb_behind : PySem.W.codeIn K cd_MoveWeb_behind "MoveWeb.behind" = true)
    (p_MoveWeb_behind : PySem.W.keepIn K (.ref f_MoveWeb_behind) = true)
    (a_MoveWeb_along : PySem.W.findIn K (.ref c_MoveWeb) "along" = some (some (.ref f_MoveWeb_along)))
    (i_MoveWeb_along : PySem.W.isFn K (.ref f_MoveWeb_along) = true)
    (l_MoveWeb_along : K.lookup f_MoveWeb_along = some ⟨oc_MoveWeb_along, od_MoveWeb_along, .func (PySem.W.fnOf "along" "MoveWeb.along" (defArgs s_MoveWeb_along) (defBody s_MoveWeb_along) (defScope s_MoveWeb_along) .none kV_MoveWeb_along dc_MoveWeb_along pm_MoveWeb_along an_MoveWeb_along cd_MoveWeb_along ct_MoveWeb_along), sl_MoveWeb_along⟩)
    (k_MoveWeb_along : PySem.W.codeIn K cd_MoveWeb_along "MoveWeb.along" = true)
    (p_MoveWeb_along : PySem.W.keepIn K (.ref f_MoveWeb_along) = true)
    (a_MoveWeb_least_end : PySem.W.findIn K (.ref c_MoveWeb) "least_end" = some (some (.ref f_MoveWeb_least_end)))
    (i_MoveWeb_least_end : PySem.W.isFn K (.ref f_MoveWeb_least_end) = true)
    (l_MoveWeb_least_end : K.lookup f_MoveWeb_least_end = some ⟨oc_MoveWeb_least_end, od_MoveWeb_least_end, .func (PySem.W.fnOf "least_end" "MoveWeb.least_end" (defArgs s_MoveWeb_least_end) (defBody s_MoveWeb_least_end) (defScope s_MoveWeb_least_end) .none kV_MoveWeb_least_end dc_MoveWeb_least_end pm_MoveWeb_least_end an_MoveWeb_least_end cd_MoveWeb_least_end ct_MoveWeb_least_end), sl_MoveWeb_least_end⟩)
    (k_MoveWeb_least_end : PySem.W.codeIn K cd_MoveWeb_least_end "MoveWeb.least_end" = true)
    (p_MoveWeb_least_end : PySem.W.keepIn K (.ref f_MoveWeb_least_end) = true)
    (a_least_of : PySem.W.nsIn K mainGlobals "least_of" = some (some (.ref f_least_of)))
    (l_least_of : K.lookup f_least_of = some ⟨oc_least_of, od_least_of, .func (PySem.W.fnOf "least_of" "least_of" (defArgs s_least_of) (defBody s_least_of) (defScope s_least_of) .none kV_least_of dc_least_of pm_least_of an_least_of cd_least_of ct_least_of), sl_least_of⟩)
    (k_least_of : PySem.W.codeIn K cd_least_of "least_of" = true)
    (p_least_of : PySem.W.keepIn K (.ref f_least_of) = true)
    (a_standings_of : PySem.W.nsIn K mainGlobals "standings_of" = some (some (.ref f_standings_of)))
    (l_standings_of : K.lookup f_standings_of = some ⟨oc_standings_of, od_standings_of, .func (PySem.W.fnOf "standings_of" "standings_of" (defArgs s_standings_of) (defBody s_standings_of) (defScope s_standings_of) .none kV_standings_of dc_standings_of pm_standings_of an_standings_of cd_standings_of ct_standings_of), sl_standings_of⟩)
    (k_standings_of : PySem.W.codeIn K cd_standings_of "standings_of" = true)
    (p_standings_of : PySem.W.keepIn K (.ref f_standings_of) = true)
    (a_cost_row : PySem.W.nsIn K mainGlobals "cost_row" = some (some (.ref f_cost_row)))
    (l_cost_row : K.lookup f_cost_row = some ⟨oc_cost_row, od_cost_row, .func (PySem.W.fnOf "cost_row" "cost_row" (defArgs s_cost_row) (defBody s_cost_row) (defScope s_cost_row) .none kV_cost_row dc_cost_row pm_cost_row an_cost_row cd_cost_row ct_cost_row), sl_cost_row⟩)
    (k_cost_row : PySem.W.codeIn K cd_cost_row "cost_row" = true)
    (p_cost_row : PySem.W.keepIn K (.ref f_cost_row) = true)
    (a_pair_moves : PySem.W.nsIn K mainGlobals "pair_moves" = some (some (.ref f_pair_moves)))
    (l_pair_moves : K.lookup f_pair_moves = some ⟨oc_pair_moves, od_pair_moves, .func (PySem.W.fnOf "pair_moves" "pair_moves" (defArgs s_pair_moves) (defBody s_pair_moves) (defScope s_pair_moves) .none kV_pair_moves dc_pair_moves pm_pair_moves an_pair_moves cd_pair_moves ct_pair_moves), sl_pair_moves⟩)
    (k_pair_moves : PySem.W.codeIn K cd_pair_moves "pair_moves" = true)
    (p_pair_moves : PySem.W.keepIn K (.ref f_pair_moves) = true)
    (a_costs_ahead : PySem.W.nsIn K mainGlobals "costs_ahead" = some (some (.ref f_costs_ahead)))
    (l_costs_ahead : K.lookup f_costs_ahead = some ⟨oc_costs_ahead, od_costs_ahead, .func (PySem.W.fnOf "costs_ahead" "costs_ahead" (defArgs s_costs_ahead) (defBody s_costs_ahead) (defScope s_costs_ahead) .none kV_costs_ahead dc_costs_ahead pm_costs_ahead an_costs_ahead cd_costs_ahead ct_costs_ahead), sl_costs_ahead⟩)
    (k_costs_ahead : PySem.W.codeIn K cd_costs_ahead "costs_ahead" = true)
    (p_costs_ahead : PySem.W.keepIn K (.ref f_costs_ahead) = true)
    (a_distance_of : PySem.W.nsIn K mainGlobals "distance_of" = some (some (.ref f_distance_of)))
    (l_distance_of : K.lookup f_distance_of = some ⟨oc_distance_of, od_distance_of, .func (PySem.W.fnOf "distance_of" "distance_of" (defArgs s_distance_of) (defBody s_distance_of) (defScope s_distance_of) .none kV_distance_of dc_distance_of pm_distance_of an_distance_of cd_distance_of ct_distance_of), sl_distance_of⟩)
    (k_distance_of : PySem.W.codeIn K cd_distance_of "distance_of" = true)
    (p_distance_of : PySem.W.keepIn K (.ref f_distance_of) = true)
    (a_mend_distance : PySem.W.nsIn K mainGlobals "mend_distance" = some (some (.ref f_mend_distance)))
    (l_mend_distance : K.lookup f_mend_distance = some ⟨oc_mend_distance, od_mend_distance, .func (PySem.W.fnOf "mend_distance" "mend_distance" (defArgs s_mend_distance) (defBody s_mend_distance) (defScope s_mend_distance) .none kV_mend_distance dc_mend_distance pm_mend_distance an_mend_distance cd_mend_distance ct_mend_distance), sl_mend_distance⟩)
    (k_mend_distance : PySem.W.codeIn K cd_mend_distance "mend_distance" = true)
    (p_mend_distance : PySem.W.keepIn K (.ref f_mend_distance) = true)
    (a_law_pool : PySem.W.nsIn K mainGlobals "_law_pool" = some (some (.ref f_law_pool)))
    (l_law_pool : K.lookup f_law_pool = some ⟨oc_law_pool, od_law_pool, .func (PySem.W.fnOf "_law_pool" "_law_pool" (defArgs s_law_pool) (defBody s_law_pool) (defScope s_law_pool) .none kV_law_pool dc_law_pool pm_law_pool an_law_pool cd_law_pool ct_law_pool), sl_law_pool⟩)
    (k_law_pool : PySem.W.codeIn K cd_law_pool "_law_pool" = true)
    (p_law_pool : PySem.W.keepIn K (.ref f_law_pool) = true)
    (a_law_draw : PySem.W.nsIn K mainGlobals "_law_draw" = some (some (.ref f_law_draw)))
    (l_law_draw : K.lookup f_law_draw = some ⟨oc_law_draw, od_law_draw, .func (PySem.W.fnOf "_law_draw" "_law_draw" (defArgs s_law_draw) (defBody s_law_draw) (defScope s_law_draw) .none kV_law_draw dc_law_draw pm_law_draw an_law_draw cd_law_draw ct_law_draw), sl_law_draw⟩)
    (k_law_draw : PySem.W.codeIn K cd_law_draw "_law_draw" = true)
    (p_law_draw : PySem.W.keepIn K (.ref f_law_draw) = true)
    (a_law_ops : PySem.W.nsIn K mainGlobals "_law_ops" = some (some (.ref f_law_ops)))
    (l_law_ops : K.lookup f_law_ops = some ⟨oc_law_ops, od_law_ops, .func (PySem.W.fnOf "_law_ops" "_law_ops" (defArgs s_law_ops) (defBody s_law_ops) (defScope s_law_ops) .none kV_law_ops dc_law_ops pm_law_ops an_law_ops cd_law_ops ct_law_ops), sl_law_ops⟩)
    (k_law_ops : PySem.W.codeIn K cd_law_ops "_law_ops" = true)
    (p_law_ops : PySem.W.keepIn K (.ref f_law_ops) = true)
    (a_law_ahead : PySem.W.nsIn K mainGlobals "_law_ahead" = some (some (.ref f_law_ahead)))
    (l_law_ahead : K.lookup f_law_ahead = some ⟨oc_law_ahead, od_law_ahead, .func (PySem.W.fnOf "_law_ahead" "_law_ahead" (defArgs s_law_ahead) (defBody s_law_ahead) (defScope s_law_ahead) .none kV_law_ahead dc_law_ahead pm_law_ahead an_law_ahead cd_law_ahead ct_law_ahead), sl_law_ahead⟩)
    (k_law_ahead : PySem.W.codeIn K cd_law_ahead "_law_ahead" = true)
    (p_law_ahead : PySem.W.keepIn K (.ref f_law_ahead) = true)
    (a_law_same : PySem.W.nsIn K mainGlobals "_law_same" = some (some (.ref f_law_same)))
    (l_law_same : K.lookup f_law_same = some ⟨oc_law_same, od_law_same, .func (PySem.W.fnOf "_law_same" "_law_same" (defArgs s_law_same) (defBody s_law_same) (defScope s_law_same) .none kV_law_same dc_law_same pm_law_same an_law_same cd_law_same ct_law_same), sl_law_same⟩)
    (k_law_same : PySem.W.codeIn K cd_law_same "_law_same" = true)
    (p_law_same : PySem.W.keepIn K (.ref f_law_same) = true)
    (a_law_letters : PySem.W.nsIn K mainGlobals "_law_letters" = some (some (.ref f_law_letters)))
    (l_law_letters : K.lookup f_law_letters = some ⟨oc_law_letters, od_law_letters, .func (PySem.W.fnOf "_law_letters" "_law_letters" (defArgs s_law_letters) (defBody s_law_letters) (defScope s_law_letters) .none kV_law_letters dc_law_letters pm_law_letters an_law_letters cd_law_letters ct_law_letters), sl_law_letters⟩)
    (k_law_letters : PySem.W.codeIn K cd_law_letters "_law_letters" = true)
    (p_law_letters : PySem.W.keepIn K (.ref f_law_letters) = true)
    (a_law_word : PySem.W.nsIn K mainGlobals "_law_word" = some (some (.ref f_law_word)))
    (l_law_word : K.lookup f_law_word = some ⟨oc_law_word, od_law_word, .func (PySem.W.fnOf "_law_word" "_law_word" (defArgs s_law_word) (defBody s_law_word) (defScope s_law_word) .none kV_law_word dc_law_word pm_law_word an_law_word cd_law_word ct_law_word), sl_law_word⟩)
    (k_law_word : PySem.W.codeIn K cd_law_word "_law_word" = true)
    (p_law_word : PySem.W.keepIn K (.ref f_law_word) = true)
    (a_law_tree : PySem.W.nsIn K mainGlobals "_law_tree" = some (some (.ref f_law_tree)))
    (l_law_tree : K.lookup f_law_tree = some ⟨oc_law_tree, od_law_tree, .func (PySem.W.fnOf "_law_tree" "_law_tree" (defArgs s_law_tree) (defBody s_law_tree) (defScope s_law_tree) .none kV_law_tree dc_law_tree pm_law_tree an_law_tree cd_law_tree ct_law_tree), sl_law_tree⟩)
    (k_law_tree : PySem.W.codeIn K cd_law_tree "_law_tree" = true)
    (p_law_tree : PySem.W.keepIn K (.ref f_law_tree) = true)
    (a_law_book : PySem.W.nsIn K mainGlobals "_law_book" = some (some (.ref f_law_book)))
    (l_law_book : K.lookup f_law_book = some ⟨oc_law_book, od_law_book, .func (PySem.W.fnOf "_law_book" "_law_book" (defArgs s_law_book) (defBody s_law_book) (defScope s_law_book) .none kV_law_book dc_law_book pm_law_book an_law_book cd_law_book ct_law_book), sl_law_book⟩)
    (k_law_book : PySem.W.codeIn K cd_law_book "_law_book" = true)
    (p_law_book : PySem.W.keepIn K (.ref f_law_book) = true)
    (a_law_spoilt : PySem.W.nsIn K mainGlobals "_law_spoilt" = some (some (.ref f_law_spoilt)))
    (l_law_spoilt : K.lookup f_law_spoilt = some ⟨oc_law_spoilt, od_law_spoilt, .func (PySem.W.fnOf "_law_spoilt" "_law_spoilt" (defArgs s_law_spoilt) (defBody s_law_spoilt) (defScope s_law_spoilt) .none kV_law_spoilt dc_law_spoilt pm_law_spoilt an_law_spoilt cd_law_spoilt ct_law_spoilt), sl_law_spoilt⟩)
    (k_law_spoilt : PySem.W.codeIn K cd_law_spoilt "_law_spoilt" = true)
    (p_law_spoilt : PySem.W.keepIn K (.ref f_law_spoilt) = true)
    (a_law_due_row : PySem.W.nsIn K mainGlobals "_law_due_row" = some (some (.ref f_law_due_row)))
    (l_law_due_row : K.lookup f_law_due_row = some ⟨oc_law_due_row, od_law_due_row, .func (PySem.W.fnOf "_law_due_row" "_law_due_row" (defArgs s_law_due_row) (defBody s_law_due_row) (defScope s_law_due_row) .none kV_law_due_row dc_law_due_row pm_law_due_row an_law_due_row cd_law_due_row ct_law_due_row), sl_law_due_row⟩)
    (k_law_due_row : PySem.W.codeIn K cd_law_due_row "_law_due_row" = true)
    (p_law_due_row : PySem.W.keepIn K (.ref f_law_due_row) = true)
    (a_law_rests : PySem.W.nsIn K mainGlobals "_law_rests" = some (some (.ref f_law_rests)))
    (l_law_rests : K.lookup f_law_rests = some ⟨oc_law_rests, od_law_rests, .func (PySem.W.fnOf "_law_rests" "_law_rests" (defArgs s_law_rests) (defBody s_law_rests) (defScope s_law_rests) .none kV_law_rests dc_law_rests pm_law_rests an_law_rests cd_law_rests ct_law_rests), sl_law_rests⟩)
    (k_law_rests : PySem.W.codeIn K cd_law_rests "_law_rests" = true)
    (p_law_rests : PySem.W.keepIn K (.ref f_law_rests) = true)
    (a_law_asked : PySem.W.nsIn K mainGlobals "_law_asked" = some (some (.ref f_law_asked)))
    (l_law_asked : K.lookup f_law_asked = some ⟨oc_law_asked, od_law_asked, .func (PySem.W.fnOf "_law_asked" "_law_asked" (defArgs s_law_asked) (defBody s_law_asked) (defScope s_law_asked) .none kV_law_asked dc_law_asked pm_law_asked an_law_asked cd_law_asked ct_law_asked), sl_law_asked⟩)
    (k_law_asked : PySem.W.codeIn K cd_law_asked "_law_asked" = true)
    (p_law_asked : PySem.W.keepIn K (.ref f_law_asked) = true)
    (a_law_table : PySem.W.nsIn K mainGlobals "_law_table" = some (some (.ref f_law_table)))
    (l_law_table : K.lookup f_law_table = some ⟨oc_law_table, od_law_table, .func (PySem.W.fnOf "_law_table" "_law_table" (defArgs s_law_table) (defBody s_law_table) (defScope s_law_table) .none kV_law_table dc_law_table pm_law_table an_law_table cd_law_table ct_law_table), sl_law_table⟩)
    (k_law_table : PySem.W.codeIn K cd_law_table "_law_table" = true)
    (p_law_table : PySem.W.keepIn K (.ref f_law_table) = true)
    (a_law_words_hold : PySem.W.nsIn K mainGlobals "_law_words_hold" = some (some (.ref f_law_words_hold)))
    (l_law_words_hold : K.lookup f_law_words_hold = some ⟨oc_law_words_hold, od_law_words_hold, .func (PySem.W.fnOf "_law_words_hold" "_law_words_hold" (defArgs s_law_words_hold) (defBody s_law_words_hold) (defScope s_law_words_hold) .none kV_law_words_hold dc_law_words_hold pm_law_words_hold an_law_words_hold cd_law_words_hold ct_law_words_hold), sl_law_words_hold⟩)
    (k_law_words_hold : PySem.W.codeIn K cd_law_words_hold "_law_words_hold" = true)
    (p_law_words_hold : PySem.W.keepIn K (.ref f_law_words_hold) = true)
    (a_law : PySem.W.nsIn K mainGlobals "law" = some (some (.ref f_law)))
    (l_law : K.lookup f_law = some ⟨oc_law, od_law, .func (PySem.W.fnOf "law" "law" (defArgs s_law) (defBody s_law) (defScope s_law) .none kV_law dc_law pm_law an_law cd_law ct_law), sl_law⟩)
    (k_law : PySem.W.codeIn K cd_law "law" = true)
    (p_law : PySem.W.keepIn K (.ref f_law) = true)
    : ∃ fd : FuncData, (∀ (s : Shared) (v : Value), BindsTo s fd ⟨[v], []⟩ [("script", v)]) ∧ ∀ base : Heap, K.In base → base.Ns mainGlobals mg → FnOk l.prog w K mg base CX0 10 fa fd ["script"] (spLaw K) := by
  have e := hfa.symm.trans (PySem.W.mg_of X G a_law)
  cases e
  have F_steps_by_state := fun_mk (st := s_steps_by_state) l_steps_by_state k_steps_by_state p_steps_by_state
  have b_steps_by_state := F_steps_by_state.binds (ps := P_steps_by_state) fun _ _ _ _ _ _ us hl => match us, hl with | [_], _ => rfl
  have F_states_behind := fun_mk (st := s_states_behind) l_states_behind k_states_behind p_states_behind
  have b_states_behind := F_states_behind.binds (ps := P_states_behind) fun _ _ _ _ _ _ us hl => match us, hl with | [_, _, _], _ => rfl
  have F_states_along := fun_mk (st := s_states_along) l_states_along k_states_along p_states_along
  have b_states_along := F_states_along.binds (ps := P_states_along) fun _ _ _ _ _ _ us hl => match us, hl with | [_, _, _], _ => rfl
  have F_rests_of := fun_mk (st := s_rests_of) l_rests_of k_rests_of p_rests_of
  have b_rests_of := F_rests_of.binds (ps := P_rests_of) fun _ _ _ _ _ _ us hl => match us, hl with | [_], _ => rfl
  have F_MoveWeb_init := fun_mk (st := s_MoveWeb_init) l_MoveWeb_init k_MoveWeb_init p_MoveWeb_init
  have b_MoveWeb_init := F_MoveWeb_init.binds (ps := P_MoveWeb_init) fun _ _ _ _ _ _ us hl => match us, hl with | [_, _, _], _ => rfl
  have F_MoveWeb_put_moves := fun_mk (st := s_MoveWeb_put_moves) l_MoveWeb_put_moves k_MoveWeb_put_moves p_MoveWeb_put_moves
  have b_MoveWeb_put_moves := F_MoveWeb_put_moves.binds (ps := P_MoveWeb_put_moves) fun _ _ _ _ _ _ us hl => match us, hl with | [_, _], _ => rfl
  have F_MoveWeb_put_edits := fun_mk (st := s_MoveWeb_put_edits) l_MoveWeb_put_edits k_MoveWeb_put_edits p_MoveWeb_put_edits
  have b_MoveWeb_put_edits := F_MoveWeb_put_edits.binds (ps := P_MoveWeb_put_edits) fun _ _ _ _ _ _ us hl => match us, hl with | [_, _, _, _], _ => rfl
  have F_MoveWeb_is_end := fun_mk (st := s_MoveWeb_is_end) l_MoveWeb_is_end k_MoveWeb_is_end p_MoveWeb_is_end
  have b_MoveWeb_is_end := F_MoveWeb_is_end.binds (ps := P_MoveWeb_is_end) fun _ _ _ _ _ _ us hl => match us, hl with | [_, _], _ => rfl
  have F_MoveWeb_ends := fun_mk (st := s_MoveWeb_ends) l_MoveWeb_ends k_MoveWeb_ends p_MoveWeb_ends
  have b_MoveWeb_ends := F_MoveWeb_ends.binds (ps := P_MoveWeb_ends) fun _ _ _ _ _ _ us hl => match us, hl with | [_], _ => rfl
  have F_MoveWeb_closed := fun_mk (st := s_MoveWeb_closed) l_MoveWeb_closed k_MoveWeb_closed p_MoveWeb_closed
  have b_MoveWeb_closed := F_MoveWeb_closed.binds (ps := P_MoveWeb_closed) fun _ _ _ _ _ _ us hl => match us, hl with | [_, _], _ => rfl
  have F_MoveWeb_begun := fun_mk (st := s_MoveWeb_begun) l_MoveWeb_begun k_MoveWeb_begun p_MoveWeb_begun
  have b_MoveWeb_begun := F_MoveWeb_begun.binds (ps := P_MoveWeb_begun) fun _ _ _ _ _ _ us hl => match us, hl with | [_], _ => rfl
  have F_MoveWeb_behind := fun_mk (st := s_MoveWeb_behind) l_MoveWeb_behind k_MoveWeb_behind p_MoveWeb_behind
  have b_MoveWeb_behind := F_MoveWeb_behind.binds (ps := P_MoveWeb_behind) fun _ _ _ _ _ _ us hl => match us, hl with | [_, _, _], _ => rfl
  have F_MoveWeb_along := fun_mk (st := s_MoveWeb_along) l_MoveWeb_along k_MoveWeb_along p_MoveWeb_along
  have b_MoveWeb_along := F_MoveWeb_along.binds (ps := P_MoveWeb_along) fun _ _ _ _ _ _ us hl => match us, hl with | [_, _], _ => rfl
  have F_MoveWeb_least_end := fun_mk (st := s_MoveWeb_least_end) l_MoveWeb_least_end k_MoveWeb_least_end p_MoveWeb_least_end
  have b_MoveWeb_least_end := F_MoveWeb_least_end.binds (ps := P_MoveWeb_least_end) fun _ _ _ _ _ _ us hl => match us, hl with | [_, _], _ => rfl
  have F_least_of := fun_mk (st := s_least_of) l_least_of k_least_of p_least_of
  have b_least_of := F_least_of.binds (ps := P_least_of) fun _ _ _ _ _ _ us hl => match us, hl with | [_], _ => rfl
  have F_standings_of := fun_mk (st := s_standings_of) l_standings_of k_standings_of p_standings_of
  have b_standings_of := F_standings_of.binds (ps := P_standings_of) fun _ _ _ _ _ _ us hl => match us, hl with | [_, _], _ => rfl
  have F_cost_row := fun_mk (st := s_cost_row) l_cost_row k_cost_row p_cost_row
  have b_cost_row := F_cost_row.binds (ps := P_cost_row) fun _ _ _ _ _ _ us hl => match us, hl with | [_, _, _], _ => rfl
  have F_pair_moves := fun_mk (st := s_pair_moves) l_pair_moves k_pair_moves p_pair_moves
  have b_pair_moves := F_pair_moves.binds (ps := P_pair_moves) fun _ _ _ _ _ _ us hl => match us, hl with | [_, _, _], _ => rfl
  have F_costs_ahead := fun_mk (st := s_costs_ahead) l_costs_ahead k_costs_ahead p_costs_ahead
  have b_costs_ahead := F_costs_ahead.binds (ps := P_costs_ahead) fun _ _ _ _ _ _ us hl => match us, hl with | [_, _], _ => rfl
  have F_distance_of := fun_mk (st := s_distance_of) l_distance_of k_distance_of p_distance_of
  have b_distance_of := F_distance_of.binds (ps := P_distance_of) fun _ _ _ _ _ _ us hl => match us, hl with | [_, _, _], _ => rfl
  have F_mend_distance := fun_mk (st := s_mend_distance) l_mend_distance k_mend_distance p_mend_distance
  have b_mend_distance := F_mend_distance.binds (ps := P_mend_distance) fun _ _ _ _ _ _ us hl => match us, hl with | [_, _, _], _ => rfl
  have F_law_pool := fun_mk (st := s_law_pool) l_law_pool k_law_pool p_law_pool
  have b_law_pool := F_law_pool.binds (ps := P_law_pool) fun _ _ _ _ _ _ us hl => match us, hl with | [_], _ => rfl
  have F_law_draw := fun_mk (st := s_law_draw) l_law_draw k_law_draw p_law_draw
  have b_law_draw := F_law_draw.binds (ps := P_law_draw) fun _ _ _ _ _ _ us hl => match us, hl with | [_, _], _ => rfl
  have F_law_ops := fun_mk (st := s_law_ops) l_law_ops k_law_ops p_law_ops
  have b_law_ops := F_law_ops.binds (ps := P_law_ops) fun _ _ _ _ _ _ us hl => match us, hl with | [_, _], _ => rfl
  have F_law_ahead := fun_mk (st := s_law_ahead) l_law_ahead k_law_ahead p_law_ahead
  have b_law_ahead := F_law_ahead.binds (ps := P_law_ahead) fun _ _ _ _ _ _ us hl => match us, hl with | [_, _, _, _], _ => rfl
  have F_law_same := fun_mk (st := s_law_same) l_law_same k_law_same p_law_same
  have b_law_same := F_law_same.binds (ps := P_law_same) fun _ _ _ _ _ _ us hl => match us, hl with | [_, _], _ => rfl
  have F_law_letters := fun_mk (st := s_law_letters) l_law_letters k_law_letters p_law_letters
  have b_law_letters := F_law_letters.binds (ps := P_law_letters) fun _ _ _ _ _ _ us hl => match us, hl with | [_, _], _ => rfl
  have F_law_word := fun_mk (st := s_law_word) l_law_word k_law_word p_law_word
  have b_law_word := F_law_word.binds (ps := P_law_word) fun _ _ _ _ _ _ us hl => match us, hl with | [_, _, _, _], _ => rfl
  have F_law_tree := fun_mk (st := s_law_tree) l_law_tree k_law_tree p_law_tree
  have b_law_tree := F_law_tree.binds (ps := P_law_tree) fun _ _ _ _ _ _ us hl => match us, hl with | [_, _], _ => rfl
  have F_law_book := fun_mk (st := s_law_book) l_law_book k_law_book p_law_book
  have b_law_book := F_law_book.binds (ps := P_law_book) fun _ _ _ _ _ _ us hl => match us, hl with | [_, _, _, _], _ => rfl
  have F_law_spoilt := fun_mk (st := s_law_spoilt) l_law_spoilt k_law_spoilt p_law_spoilt
  have b_law_spoilt := F_law_spoilt.binds (ps := P_law_spoilt) fun _ _ _ _ _ _ us hl => match us, hl with | [_, _, _], _ => rfl
  have F_law_due_row := fun_mk (st := s_law_due_row) l_law_due_row k_law_due_row p_law_due_row
  have b_law_due_row := F_law_due_row.binds (ps := P_law_due_row) fun _ _ _ _ _ _ us hl => match us, hl with | [_, _, _, _], _ => rfl
  have F_law_rests := fun_mk (st := s_law_rests) l_law_rests k_law_rests p_law_rests
  have b_law_rests := F_law_rests.binds (ps := P_law_rests) fun _ _ _ _ _ _ us hl => match us, hl with | [_], _ => rfl
  have F_law_asked := fun_mk (st := s_law_asked) l_law_asked k_law_asked p_law_asked
  have b_law_asked := F_law_asked.binds (ps := P_law_asked) fun _ _ _ _ _ _ us hl => match us, hl with | [_, _, _], _ => rfl
  have F_law_table := fun_mk (st := s_law_table) l_law_table k_law_table p_law_table
  have b_law_table := F_law_table.binds (ps := P_law_table) fun _ _ _ _ _ _ us hl => match us, hl with | [_, _, _], _ => rfl
  have F_law_words_hold := fun_mk (st := s_law_words_hold) l_law_words_hold k_law_words_hold p_law_words_hold
  have b_law_words_hold := F_law_words_hold.binds (ps := P_law_words_hold) fun _ _ _ _ _ _ us hl => match us, hl with | [_], _ => rfl
  have F_law := fun_mk (st := s_law) l_law k_law p_law
  have b_law := F_law.binds (ps := P_law) fun _ _ _ _ _ _ us hl => match us, hl with | [_], _ => rfl
  refine ⟨PySem.W.fnOf "law" "law" (defArgs s_law) (defBody s_law) (defScope s_law) .none kV_law dc_law pm_law an_law cd_law ct_law, fun s v => .of_eq rfl, fun base _ _ => ok_law (P := l.prog) (w := w) (K := K) (g := mg) (base := base) {
    z_len := PySem.W.mg_none_of X G z_len,
    z_range := PySem.W.mg_none_of X G z_range,
    z_enumerate := PySem.W.mg_none_of X G z_enumerate,
    z_zip := PySem.W.mg_none_of X G z_zip,
    z_reversed := PySem.W.mg_none_of X G z_reversed,
    z_list := PySem.W.mg_none_of X G z_list,
    z_tuple := PySem.W.mg_none_of X G z_tuple,
    z_sorted := PySem.W.mg_none_of X G z_sorted,
    z_min := PySem.W.mg_none_of X G z_min,
    z_max := PySem.W.mg_none_of X G z_max,
    z_set := PySem.W.mg_none_of X G z_set,
    z_int := PySem.W.mg_none_of X G z_int,
    z_str := PySem.W.mg_none_of X G z_str,
    z_isinstance := PySem.W.mg_none_of X G z_isinstance,
    z_bool := PySem.W.mg_none_of X G z_bool,
    c_MoveWeb := c_MoveWeb,
    cl_MoveWeb := ⟨pg_MoveWeb, hd_MoveWeb, po_MoveWeb, sa_MoveWeb⟩,
    mg_MoveWeb := PySem.W.mg_of X G g_MoveWeb,
    na_MoveWeb_book := na_MoveWeb_book,
    na_MoveWeb_machine := na_MoveWeb_machine,
    na_MoveWeb_standings := na_MoveWeb_standings,
    na_MoveWeb_homes := na_MoveWeb_homes,
    na_MoveWeb_silent := na_MoveWeb_silent,
    na_MoveWeb_reading := na_MoveWeb_reading,
    d_steps_by_state := ⟨_, _, F_steps_by_state, PySem.W.mg_of X G a_steps_by_state, b_steps_by_state⟩,
    d_states_behind := ⟨_, _, F_states_behind, PySem.W.mg_of X G a_states_behind, b_states_behind⟩,
    d_states_along := ⟨_, _, F_states_along, PySem.W.mg_of X G a_states_along, b_states_along⟩,
    d_rests_of := ⟨_, _, F_rests_of, PySem.W.mg_of X G a_rests_of, b_rests_of⟩,
    d_MoveWeb_init := ⟨_, _, F_MoveWeb_init, ⟨a_MoveWeb_init, i_MoveWeb_init, p_MoveWeb_init⟩, b_MoveWeb_init⟩,
    mk_MoveWeb := ⟨mks_MoveWeb, a_MoveWeb_init, i_MoveWeb_init, kc_MoveWeb⟩,
    d_MoveWeb_put_moves := ⟨_, _, F_MoveWeb_put_moves, ⟨a_MoveWeb_put_moves, i_MoveWeb_put_moves, p_MoveWeb_put_moves⟩, b_MoveWeb_put_moves⟩,
    d_MoveWeb_put_edits := ⟨_, _, F_MoveWeb_put_edits, ⟨a_MoveWeb_put_edits, i_MoveWeb_put_edits, p_MoveWeb_put_edits⟩, b_MoveWeb_put_edits⟩,
    d_MoveWeb_is_end := ⟨_, _, F_MoveWeb_is_end, ⟨a_MoveWeb_is_end, i_MoveWeb_is_end, p_MoveWeb_is_end⟩, b_MoveWeb_is_end⟩,
    d_MoveWeb_ends := ⟨_, _, F_MoveWeb_ends, ⟨a_MoveWeb_ends, i_MoveWeb_ends, p_MoveWeb_ends⟩, b_MoveWeb_ends⟩,
    d_MoveWeb_closed := ⟨_, _, F_MoveWeb_closed, ⟨a_MoveWeb_closed, i_MoveWeb_closed, p_MoveWeb_closed⟩, b_MoveWeb_closed⟩,
    d_MoveWeb_begun := ⟨_, _, F_MoveWeb_begun, ⟨a_MoveWeb_begun, i_MoveWeb_begun, p_MoveWeb_begun⟩, b_MoveWeb_begun⟩,
    d_MoveWeb_behind := ⟨_, _, F_MoveWeb_behind, ⟨a_MoveWeb_behind, i_MoveWeb_behind, p_MoveWeb_behind⟩, b_MoveWeb_behind⟩,
    d_MoveWeb_along := ⟨_, _, F_MoveWeb_along, ⟨a_MoveWeb_along, i_MoveWeb_along, p_MoveWeb_along⟩, b_MoveWeb_along⟩,
    d_MoveWeb_least_end := ⟨_, _, F_MoveWeb_least_end, ⟨a_MoveWeb_least_end, i_MoveWeb_least_end, p_MoveWeb_least_end⟩, b_MoveWeb_least_end⟩,
    d_least_of := ⟨_, _, F_least_of, PySem.W.mg_of X G a_least_of, b_least_of⟩,
    d_standings_of := ⟨_, _, F_standings_of, PySem.W.mg_of X G a_standings_of, b_standings_of⟩,
    d_cost_row := ⟨_, _, F_cost_row, PySem.W.mg_of X G a_cost_row, b_cost_row⟩,
    d_pair_moves := ⟨_, _, F_pair_moves, PySem.W.mg_of X G a_pair_moves, b_pair_moves⟩,
    d_costs_ahead := ⟨_, _, F_costs_ahead, PySem.W.mg_of X G a_costs_ahead, b_costs_ahead⟩,
    d_distance_of := ⟨_, _, F_distance_of, PySem.W.mg_of X G a_distance_of, b_distance_of⟩,
    d_mend_distance := ⟨_, _, F_mend_distance, PySem.W.mg_of X G a_mend_distance, b_mend_distance⟩,
    d_law_pool := ⟨_, _, F_law_pool, PySem.W.mg_of X G a_law_pool, b_law_pool⟩,
    d_law_draw := ⟨_, _, F_law_draw, PySem.W.mg_of X G a_law_draw, b_law_draw⟩,
    d_law_ops := ⟨_, _, F_law_ops, PySem.W.mg_of X G a_law_ops, b_law_ops⟩,
    d_law_ahead := ⟨_, _, F_law_ahead, PySem.W.mg_of X G a_law_ahead, b_law_ahead⟩,
    d_law_same := ⟨_, _, F_law_same, PySem.W.mg_of X G a_law_same, b_law_same⟩,
    d_law_letters := ⟨_, _, F_law_letters, PySem.W.mg_of X G a_law_letters, b_law_letters⟩,
    d_law_word := ⟨_, _, F_law_word, PySem.W.mg_of X G a_law_word, b_law_word⟩,
    d_law_tree := ⟨_, _, F_law_tree, PySem.W.mg_of X G a_law_tree, b_law_tree⟩,
    d_law_book := ⟨_, _, F_law_book, PySem.W.mg_of X G a_law_book, b_law_book⟩,
    d_law_spoilt := ⟨_, _, F_law_spoilt, PySem.W.mg_of X G a_law_spoilt, b_law_spoilt⟩,
    d_law_due_row := ⟨_, _, F_law_due_row, PySem.W.mg_of X G a_law_due_row, b_law_due_row⟩,
    d_law_rests := ⟨_, _, F_law_rests, PySem.W.mg_of X G a_law_rests, b_law_rests⟩,
    d_law_asked := ⟨_, _, F_law_asked, PySem.W.mg_of X G a_law_asked, b_law_asked⟩,
    d_law_table := ⟨_, _, F_law_table, PySem.W.mg_of X G a_law_table, b_law_table⟩,
    d_law_words_hold := ⟨_, _, F_law_words_hold, PySem.W.mg_of X G a_law_words_hold, b_law_words_hold⟩,
    d_law := ⟨_, _, F_law, PySem.W.mg_of X G a_law, b_law⟩ }⟩
theorem walk {l : PySem.W.OpenLaw} {q : Program} {loose : List Str} {XP : (Str → Option Value) → Heap → Prop} {YP : World → Heap → Prop} {d : DefRec} {K : Params → PySem.W.Frag} (hn : l.most = some 63) (hdf : d.params.defaults = [])
    (hY : ∀ (w : World) (h : Heap), YP w h → (K w.params).In h)
    (F : ∀ (w : World) (mg : Str → Option Value) (fa : Addr) (h : Heap), (K w.params).In h → h.Ns mainGlobals mg → mg d.name = some (.ref fa) →
      ∃ fd : FuncData, (∀ (s : Shared) (u : Value), BindsTo s fd ⟨[u], []⟩ [("script", u)]) ∧ ∀ base : Heap, (K w.params).In base → base.Ns mainGlobals mg → FnOk l.prog w (K w.params) mg base CX0 10 fa fd ["script"] (spLaw (K w.params))) :
    PySem.W.WalkO q loose XP YP l.row.toRowW d [] (fun f vs => PySem.call f vs) :=
  L2.walk_of (n := 63) (k := 10) (x := "script") (CX := fun _ => CX0) (sp := fun w => spLaw (K w.params)) hn (by decide) hdf ⟨rfl, by decide, by decide⟩ hY F (fun _ _ a ns hl _ hS => ⟨a, ns, rfl, hS, hl, fun _ => rfl⟩) fun _ _ _ _ _ z => z
end Fm

open PySem PySem.W PyProof.Rows in
set_option maxRecDepth 100000 in
set_option maxHeartbeats 0 in
theorem PySem.Challenge.cw_fewmends_k79_whole_phones_holds : PySem.Challenge.rw_fewmends_k79_whole_phones.Holds := by
  w_on; o_law; k_head; (case hw => w_witness2)
  k_fill
  refine Fm.walk (l := PySem.Challenge.rw_fewmends_k79_whole_phones) rfl rfl (fun w h Y => PySem.W.kIn_of Y) ?F
  case F =>
    intro w mg fa h KX G hmg
    refine' Fm.all_mk KX G hmg ?z_len ?z_range ?z_enumerate ?z_zip ?z_reversed ?z_list ?z_tuple ?z_sorted ?z_min ?z_max ?z_set ?z_int ?z_str ?z_isinstance ?z_bool ?g_MoveWeb ?pg_MoveWeb ?hd_MoveWeb ?po_MoveWeb ?sa_MoveWeb ?mks_MoveWeb ?kc_MoveWeb ?na_MoveWeb_book ?na_MoveWeb_machine ?na_MoveWeb_standings ?na_MoveWeb_homes ?na_MoveWeb_silent ?na_MoveWeb_reading ?a_steps_by_state ?l_steps_by_state ?k_steps_by_state ?p_steps_by_state ?a_states_behind ?l_states_behind ?k_states_behind ?p_states_behind ?a_states_along ?l_states_along ?k_states_along ?p_states_along ?a_rests_of ?l_rests_of ?k_rests_of ?p_rests_of ?a_MoveWeb_init ?i_MoveWeb_init ?l_MoveWeb_init ?k_MoveWeb_init ?p_MoveWeb_init ?a_MoveWeb_put_moves ?i_MoveWeb_put_moves ?l_MoveWeb_put_moves ?k_MoveWeb_put_moves ?p_MoveWeb_put_moves ?a_MoveWeb_put_edits ?i_MoveWeb_put_edits ?l_MoveWeb_put_edits ?k_MoveWeb_put_edits ?p_MoveWeb_put_edits ?a_MoveWeb_is_end ?i_MoveWeb_is_end ?l_MoveWeb_is_end ?k_MoveWeb_is_end ?p_MoveWeb_is_end ?a_MoveWeb_ends ?i_MoveWeb_ends ?l_MoveWeb_ends ?k_MoveWeb_ends ?p_MoveWeb_ends ?a_MoveWeb_closed ?i_MoveWeb_closed ?l_MoveWeb_closed ?k_MoveWeb_closed ?p_MoveWeb_closed ?a_MoveWeb_begun ?i_MoveWeb_begun ?l_MoveWeb_begun ?k_MoveWeb_begun ?p_MoveWeb_begun ?a_MoveWeb_behind ?i_MoveWeb_behind ?l_MoveWeb_behind ?k_MoveWeb_behind ?p_MoveWeb_behind ?a_MoveWeb_along ?i_MoveWeb_along ?l_MoveWeb_along ?k_MoveWeb_along ?p_MoveWeb_along ?a_MoveWeb_least_end ?i_MoveWeb_least_end ?l_MoveWeb_least_end ?k_MoveWeb_least_end ?p_MoveWeb_least_end ?a_least_of ?l_least_of ?k_least_of ?p_least_of ?a_standings_of ?l_standings_of ?k_standings_of ?p_standings_of ?a_cost_row ?l_cost_row ?k_cost_row ?p_cost_row ?a_pair_moves ?l_pair_moves ?k_pair_moves ?p_pair_moves ?a_costs_ahead ?l_costs_ahead ?k_costs_ahead ?p_costs_ahead ?a_distance_of ?l_distance_of ?k_distance_of ?p_distance_of ?a_mend_distance ?l_mend_distance ?k_mend_distance ?p_mend_distance ?a_law_pool ?l_law_pool ?k_law_pool ?p_law_pool ?a_law_draw ?l_law_draw ?k_law_draw ?p_law_draw ?a_law_ops ?l_law_ops ?k_law_ops ?p_law_ops ?a_law_ahead ?l_law_ahead ?k_law_ahead ?p_law_ahead ?a_law_same ?l_law_same ?k_law_same ?p_law_same ?a_law_letters ?l_law_letters ?k_law_letters ?p_law_letters ?a_law_word ?l_law_word ?k_law_word ?p_law_word ?a_law_tree ?l_law_tree ?k_law_tree ?p_law_tree ?a_law_book ?l_law_book ?k_law_book ?p_law_book ?a_law_spoilt ?l_law_spoilt ?k_law_spoilt ?p_law_spoilt ?a_law_due_row ?l_law_due_row ?k_law_due_row ?p_law_due_row ?a_law_rests ?l_law_rests ?k_law_rests ?p_law_rests ?a_law_asked ?l_law_asked ?k_law_asked ?p_law_asked ?a_law_table ?l_law_table ?k_law_table ?p_law_table ?a_law_words_hold ?l_law_words_hold ?k_law_words_hold ?p_law_words_hold ?a_law ?l_law ?k_law ?p_law
    (case z_len => k_is)
    (case z_range => k_is)
    (case z_enumerate => k_is)
    (case z_zip => k_is)
    (case z_reversed => k_is)
    (case z_list => k_is)
    (case z_tuple => k_is)
    (case z_sorted => k_is)
    (case z_min => k_is)
    (case z_max => k_is)
    (case z_set => k_is)
    (case z_int => k_is)
    (case z_str => k_is)
    (case z_isinstance => k_is)
    (case z_bool => k_is)
    (case g_MoveWeb => k_is)
    (case pg_MoveWeb => k_is)
    (case hd_MoveWeb => k_is)
    (case po_MoveWeb => k_is)
    (case sa_MoveWeb => k_is)
    (case mks_MoveWeb => k_is)
    (case kc_MoveWeb => k_is)
    (case na_MoveWeb_book => k_is)
    (case na_MoveWeb_machine => k_is)
    (case na_MoveWeb_standings => k_is)
    (case na_MoveWeb_homes => k_is)
    (case na_MoveWeb_silent => k_is)
    (case na_MoveWeb_reading => k_is)
    (case a_steps_by_state => k_is)
    (case l_steps_by_state => k_is)
    (case k_steps_by_state => k_is)
    (case p_steps_by_state => k_is)
    (case a_states_behind => k_is)
    (case l_states_behind => k_is)
    (case k_states_behind => k_is)
    (case p_states_behind => k_is)
    (case a_states_along => k_is)
    (case l_states_along => k_is)
    (case k_states_along => k_is)
    (case p_states_along => k_is)
    (case a_rests_of => k_is)
    (case l_rests_of => k_is)
    (case k_rests_of => k_is)
    (case p_rests_of => k_is)
    (case a_MoveWeb_init => k_is)
    (case i_MoveWeb_init => k_is)
    (case l_MoveWeb_init => k_is)
    (case k_MoveWeb_init => k_is)
    (case p_MoveWeb_init => k_is)
    (case a_MoveWeb_put_moves => k_is)
    (case i_MoveWeb_put_moves => k_is)
    (case l_MoveWeb_put_moves => k_is)
    (case k_MoveWeb_put_moves => k_is)
    (case p_MoveWeb_put_moves => k_is)
    (case a_MoveWeb_put_edits => k_is)
    (case i_MoveWeb_put_edits => k_is)
    (case l_MoveWeb_put_edits => k_is)
    (case k_MoveWeb_put_edits => k_is)
    (case p_MoveWeb_put_edits => k_is)
    (case a_MoveWeb_is_end => k_is)
    (case i_MoveWeb_is_end => k_is)
    (case l_MoveWeb_is_end => k_is)
    (case k_MoveWeb_is_end => k_is)
    (case p_MoveWeb_is_end => k_is)
    (case a_MoveWeb_ends => k_is)
    (case i_MoveWeb_ends => k_is)
    (case l_MoveWeb_ends => k_is)
    (case k_MoveWeb_ends => k_is)
    (case p_MoveWeb_ends => k_is)
    (case a_MoveWeb_closed => k_is)
    (case i_MoveWeb_closed => k_is)
    (case l_MoveWeb_closed => k_is)
    (case k_MoveWeb_closed => k_is)
    (case p_MoveWeb_closed => k_is)
    (case a_MoveWeb_begun => k_is)
    (case i_MoveWeb_begun => k_is)
    (case l_MoveWeb_begun => k_is)
    (case k_MoveWeb_begun => k_is)
    (case p_MoveWeb_begun => k_is)
    (case a_MoveWeb_behind => k_is)
    (case i_MoveWeb_behind => k_is)
    (case l_MoveWeb_behind => k_is)
    (case k_MoveWeb_behind => k_is)
    (case p_MoveWeb_behind => k_is)
    (case a_MoveWeb_along => k_is)
    (case i_MoveWeb_along => k_is)
    (case l_MoveWeb_along => k_is)
    (case k_MoveWeb_along => k_is)
    (case p_MoveWeb_along => k_is)
    (case a_MoveWeb_least_end => k_is)
    (case i_MoveWeb_least_end => k_is)
    (case l_MoveWeb_least_end => k_is)
    (case k_MoveWeb_least_end => k_is)
    (case p_MoveWeb_least_end => k_is)
    (case a_least_of => k_is)
    (case l_least_of => k_is)
    (case k_least_of => k_is)
    (case p_least_of => k_is)
    (case a_standings_of => k_is)
    (case l_standings_of => k_is)
    (case k_standings_of => k_is)
    (case p_standings_of => k_is)
    (case a_cost_row => k_is)
    (case l_cost_row => k_is)
    (case k_cost_row => k_is)
    (case p_cost_row => k_is)
    (case a_pair_moves => k_is)
    (case l_pair_moves => k_is)
    (case k_pair_moves => k_is)
    (case p_pair_moves => k_is)
    (case a_costs_ahead => k_is)
    (case l_costs_ahead => k_is)
    (case k_costs_ahead => k_is)
    (case p_costs_ahead => k_is)
    (case a_distance_of => k_is)
    (case l_distance_of => k_is)
    (case k_distance_of => k_is)
    (case p_distance_of => k_is)
    (case a_mend_distance => k_is)
    (case l_mend_distance => k_is)
    (case k_mend_distance => k_is)
    (case p_mend_distance => k_is)
    (case a_law_pool => k_is)
    (case l_law_pool => k_is)
    (case k_law_pool => k_is)
    (case p_law_pool => k_is)
    (case a_law_draw => k_is)
    (case l_law_draw => k_is)
    (case k_law_draw => k_is)
    (case p_law_draw => k_is)
    (case a_law_ops => k_is)
    (case l_law_ops => k_is)
    (case k_law_ops => k_is)
    (case p_law_ops => k_is)
    (case a_law_ahead => k_is)
    (case l_law_ahead => k_is)
    (case k_law_ahead => k_is)
    (case p_law_ahead => k_is)
    (case a_law_same => k_is)
    (case l_law_same => k_is)
    (case k_law_same => k_is)
    (case p_law_same => k_is)
    (case a_law_letters => k_is)
    (case l_law_letters => k_is)
    (case k_law_letters => k_is)
    (case p_law_letters => k_is)
    (case a_law_word => k_is)
    (case l_law_word => k_is)
    (case k_law_word => k_is)
    (case p_law_word => k_is)
    (case a_law_tree => k_is)
    (case l_law_tree => k_is)
    (case k_law_tree => k_is)
    (case p_law_tree => k_is)
    (case a_law_book => k_is)
    (case l_law_book => k_is)
    (case k_law_book => k_is)
    (case p_law_book => k_is)
    (case a_law_spoilt => k_is)
    (case l_law_spoilt => k_is)
    (case k_law_spoilt => k_is)
    (case p_law_spoilt => k_is)
    (case a_law_due_row => k_is)
    (case l_law_due_row => k_is)
    (case k_law_due_row => k_is)
    (case p_law_due_row => k_is)
    (case a_law_rests => k_is)
    (case l_law_rests => k_is)
    (case k_law_rests => k_is)
    (case p_law_rests => k_is)
    (case a_law_asked => k_is)
    (case l_law_asked => k_is)
    (case k_law_asked => k_is)
    (case p_law_asked => k_is)
    (case a_law_table => k_is)
    (case l_law_table => k_is)
    (case k_law_table => k_is)
    (case p_law_table => k_is)
    (case a_law_words_hold => k_is)
    (case l_law_words_hold => k_is)
    (case k_law_words_hold => k_is)
    (case p_law_words_hold => k_is)
    (case a_law => k_is)
    (case l_law => k_is)
    (case k_law => k_is)
    (case p_law => k_is)
