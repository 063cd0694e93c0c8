import PyProof.Rows.All
import Wide.All
import OpenK.AllK
import Wide.FinOn
import HandS.ForMost
import HandS.Evl
import HandS.Zip
import HandS.DictComp
import HandS.Style
import HandS.IsInst
import HandS.SortInts
import HandS.Wide
import HandS.More
import KE.KDictDisplayH
import PySem.Challenge.RW_fewmends_k78_whole_floors
import HandS.Codes
import HandS.TupSets
import HandS.SortOrd
import KE.KSortTupG
import HandS.Strs
import PyProof.ListStr
import HandS.Walk
import HandS.Conv
import PyProof.StrBlock2
import PyProof.Rows.StrJoinRep
import HandS.SetTxt0
import HandS.RevRange
import HandS.StrMore
import PyProof.Rows.StrMeet
import HandS.TupAny
import HandS.TupLe
set_option Elab.async false
set_option linter.all false
set_option autoImplicit false
set_option maxRecDepth 100000
set_option maxHeartbeats 4000000
/-! typed readings over the hand layer -/
namespace Fm
open PySem L2
/-- all but the objects at M stands; tuples stand always -/
structure Fx (M : List Addr) (H H' : Hp) : Prop where
  keep : ∀ a o, a ∉ M → H a = some o → H' a = some o
  tups : ∀ a xs, H a = some (.tup xs) → H' a = some (.tup xs)
abbrev Fe (H H' : Hp) : Prop := Fx [] H H'
theorem Fx.refl (M : List Addr) (H : Hp) : Fx M H H := ⟨fun _ _ _ h => h, fun _ _ h => h⟩
theorem Fx.trans {M : List Addr} {H H1 H2 : Hp} (a : Fx M H H1) (b : Fx M H1 H2) : Fx M H H2 :=
  ⟨fun c o n h => b.keep c o n (a.keep c o n h), fun c xs h => b.tups c xs (a.tups c xs h)⟩
theorem Fx.wk {M N : List Addr} {H H' : Hp} (a : Fx M H H') (s : ∀ x ∈ M, x ∈ N) : Fx N H H' :=
  ⟨fun c o n h => a.keep c o (fun q => n (s c q)) h, a.tups⟩
theorem Fx.to {M : List Addr} {H H' : Hp} (a : Fe H H') : Fx M H H' := a.wk (fun _ q => nomatch q)
theorem Fx.k {H H' : Hp} (a : Fe H H') {p : Addr} {o : HO} (h : H p = some o) : H' p = some o := a.keep p o (fun q => nomatch q) h
theorem Fe.new {H : Hp} {p : Addr} {o : HO} (hp : H p = none) : Fe H (upd H p o) :=
  ⟨fun a o' _ h => by rw [upd_ne (ne_of_none h hp)]; exact h, fun a xs h => by rw [upd_ne (ne_of_none h hp)]; exact h⟩
/-- an object that is no tuple is written -/
theorem Fx.put {M : List Addr} {H : Hp} {p : Addr} {o u : HO} (hp : H p = some u) (hM : p ∈ M) (hu : ∀ xs, u ≠ .tup xs) : Fx M H (upd H p o) :=
  ⟨fun a o' n h => by rw [upd_ne (fun e => n (by rw [e]; exact hM))]; exact h,
   fun a xs h => by rw [upd_ne (fun e => by rw [e, hp] at h; exact hu xs (Option.some.inj h))]; exact h⟩
/-- an object that H did not know is written: for H nothing has changed -/
theorem Fx.mut {H H' : Hp} {p : Addr} {o : HO} (e : Fe H H') (hp : H p = none) : Fe H (upd H' p o) :=
  ⟨fun a o' _ h => by rw [upd_ne (ne_of_none h hp)]; exact e.k h, fun a xs h => by rw [upd_ne (ne_of_none h hp)]; exact e.k h⟩
theorem Fx.free {H H' : Hp} (e : Fe H H') {p : Addr} (h : H' p = none) : H p = none := by
  cases q : H p with
  | none => rfl
  | some o => rw [e.k q] at h; cases h
theorem Fx.same {H H' : Hp} (e : Fe H H') : Same H H' := fun b o h => e.k h
theorem Same.fe {H H' : Hp} (e : Same H H') : Fe H H' := ⟨fun b o _ h => e b o h, fun b xs h => e b _ h⟩

/-! ### data by values -/
abbrev Rp (α : Type) := Hp → V → α → Prop
class Mo {α : Type} (r : Rp α) : Prop where
  mo : ∀ {M : List Addr} {H H' : Hp} {v : V} {x : α}, Fx M H H' → r H v x → r H' v x
def rI : Rp Int := fun _ v i => v = .int i
def rN : Rp Nat := fun _ v n => v = .int (n : Int)
def rB : Rp Bool := fun _ v b => v = .bl b
/-- a text by its codes -/
def rS : Rp (List Nat) := fun _ v l => v = .str ⟨l.toArray⟩
def rX : Rp Unit := fun _ _ _ => True
def rO {α : Type} (r : Rp α) : Rp (Option α) := fun H v o => match o with
  | none => v = .non
  | some x => r H v x
def rP {α β : Type} (r : Rp α) (q : Rp β) : Rp (α × β) := fun H v p => ∃ a x y, v = .ref a ∧ H a = some (.tup [x, y]) ∧ r H x p.1 ∧ q H y p.2
def rP3 {α β γ : Type} (r : Rp α) (q : Rp β) (t : Rp γ) : Rp (α × β × γ) := fun H v p => ∃ a x y z, v = .ref a ∧ H a = some (.tup [x, y, z]) ∧ r H x p.1 ∧ q H y p.2.1 ∧ t H z p.2.2
abbrev Al {α : Type} (r : Rp α) (H : Hp) : List V → List α → Prop := Paired (r H)
/-- a tuple, item by item -/
def rT {α : Type} (r : Rp α) : Rp (List α) := fun H v l => ∃ a xs, v = .ref a ∧ H a = some (.tup xs) ∧ Al r H xs l
instance : Mo rI := ⟨fun _ h => h⟩
instance : Mo rN := ⟨fun _ h => h⟩
instance : Mo rB := ⟨fun _ h => h⟩
instance : Mo rS := ⟨fun _ h => h⟩
instance : Mo rX := ⟨fun _ h => h⟩
instance {α : Type} {r : Rp α} [Mo r] : Mo (rO r) := ⟨fun {_ _ _ _ x} f h => by
  cases x with
  | none => exact h
  | some y => exact Mo.mo (r := r) f h⟩
instance {α β : Type} {r : Rp α} {q : Rp β} [Mo r] [Mo q] : Mo (rP r q) :=
  ⟨fun f ⟨a, x, y, e, h, h1, h2⟩ => ⟨a, x, y, e, f.tups _ _ h, Mo.mo (r := r) f h1, Mo.mo (r := q) f h2⟩⟩
instance {α β γ : Type} {r : Rp α} {q : Rp β} {t : Rp γ} [Mo r] [Mo q] [Mo t] : Mo (rP3 r q t) :=
  ⟨fun f ⟨a, x, y, z, e, h, h1, h2, h3⟩ => ⟨a, x, y, z, e, f.tups _ _ h, Mo.mo (r := r) f h1, Mo.mo (r := q) f h2, Mo.mo (r := t) f h3⟩⟩
theorem Al.mo {α : Type} {r : Rp α} [Mo r] {M : List Addr} {H H' : Hp} {xs : List V} {l : List α} (f : Fx M H H') (h : Al r H xs l) : Al r H' xs l := L2.Paired.mapP h fun _ _ q => Mo.mo (r := r) f q
instance {α : Type} {r : Rp α} [Mo r] : Mo (rT r) := ⟨fun f ⟨a, xs, e, h, h1⟩ => ⟨a, xs, e, f.tups _ _ h, Al.mo f h1⟩⟩
/-- a list, item by item (read only: it stands while nobody writes it) -/
def rL {α : Type} (r : Rp α) : Rp (List α) := fun H v l => ∃ a xs, v = .ref a ∧ H a = some (.lst xs) ∧ Al r H xs l
/-- data that stand while nothing that was known is written -/
class Me {α : Type} (r : Rp α) : Prop where
  me : ∀ {H H' : Hp} {v : V} {x : α}, Fe H H' → r H v x → r H' v x
instance (priority := low) {α : Type} {r : Rp α} [Mo r] : Me r := ⟨fun f h => Mo.mo (r := r) f h⟩
theorem Al.me {α : Type} {r : Rp α} [Me r] {H H' : Hp} {xs : List V} {l : List α} (f : Fe H H') (h : Al r H xs l) : Al r H' xs l := L2.Paired.mapP h fun _ _ q => Me.me (r := r) f q
instance {α : Type} {r : Rp α} [Me r] : Me (rL r) := ⟨fun f ⟨a, xs, e, h, h1⟩ => ⟨a, xs, e, f.k h, Al.me f h1⟩⟩
instance {α : Type} {r : Rp α} [Me r] : Me (rT r) := ⟨fun f ⟨a, xs, e, h, h1⟩ => ⟨a, xs, e, f.k h, Al.me f h1⟩⟩
instance {α β : Type} {r : Rp α} {q : Rp β} [Me r] [Me q] : Me (rP r q) :=
  ⟨fun f ⟨a, x, y, e, h, h1, h2⟩ => ⟨a, x, y, e, f.k h, Me.me (r := r) f h1, Me.me (r := q) f h2⟩⟩
instance {α β γ : Type} {r : Rp α} {q : Rp β} {t : Rp γ} [Me r] [Me q] [Me t] : Me (rP3 r q t) :=
  ⟨fun f ⟨a, x, y, z, e, h, h1, h2, h3⟩ => ⟨a, x, y, z, e, f.k h, Me.me (r := r) f h1, Me.me (r := q) f h2, Me.me (r := t) f h3⟩⟩
instance {α : Type} {r : Rp α} [Me r] : Me (rO r) := ⟨fun {_ _ _ x} f h => by
  cases x with
  | none => exact h
  | some y => exact Me.me (r := r) f h⟩
theorem Me.go {α : Type} {r : Rp α} [Me r] {H H' : Hp} {v : V} {x : α} (h : r H v x) (f : Fe H H') : r H' v x := Me.me (r := r) f h
theorem Al.len {α : Type} {r : Rp α} {H : Hp} {xs : List V} {l : List α} (h : Al r H xs l) : xs.length = l.length := Paired.length h
theorem Al.get {α : Type} {r : Rp α} {H : Hp} : ∀ {xs : List V} {l : List α}, Al r H xs l → ∀ {i : Nat} {x : V}, xs[i]? = some x → ∃ y, l[i]? = some y ∧ r H x y
  | _, _, .nil, i, x, e => by cases i <;> cases e
  | _, _, .cons h t, 0, x, e => by cases e; exact ⟨_, rfl, h⟩
  | _, _, .cons h t, i + 1, x, e => Al.get t (i := i) (x := x) e
theorem Al.at {α : Type} {r : Rp α} {H : Hp} : ∀ {xs : List V} {l : List α}, Al r H xs l → ∀ {i : Nat} {y : α}, l[i]? = some y → ∃ x, xs[i]? = some x ∧ r H x y
  | _, _, .nil, i, x, e => by cases i <;> cases e
  | _, _, .cons h t, 0, x, e => by cases e; exact ⟨_, rfl, h⟩
  | _, _, .cons h t, i + 1, x, e => Al.at t (i := i) (y := x) e
theorem Al.snoc {α : Type} {r : Rp α} {H : Hp} {x : V} {y : α} (q : r H x y) : ∀ {xs : List V} {l : List α}, Al r H xs l → Al r H (xs ++ [x]) (l ++ [y])
  | _, _, .nil => .cons q .nil
  | _, _, .cons h t => .cons h (Al.snoc q t)
theorem Al.set {α : Type} {r : Rp α} {H : Hp} {x : V} {y : α} (q : r H x y) : ∀ {xs : List V} {l : List α} (i : Nat), Al r H xs l → Al r H (xs.set i x) (l.set i y)
  | _, _, _, .nil => .nil
  | _, _, 0, .cons h t => .cons q t
  | _, _, i + 1, .cons h t => .cons h (Al.set q i t)
theorem Al.app {α : Type} {r : Rp α} {H : Hp} : ∀ {xs ys : List V} {l m : List α}, Al r H xs l → Al r H ys m → Al r H (xs ++ ys) (l ++ m)
  | _, _, _, _, .nil, s => s
  | _, _, _, _, .cons h t, s => .cons h (Al.app t s)
theorem Al.ints {H : Hp} : ∀ {xs : List V} {l : List Int}, Al rI H xs l → xs = l.map V.int
  | _, _, .nil => rfl
  | _, _, .cons h t => by rw [List.map_cons, ← Al.ints t, h]
theorem Al.ofInts {H : Hp} : ∀ l : List Int, Al rI H (l.map V.int) l
  | [] => .nil
  | x :: l => .cons rfl (Al.ofInts l)
theorem Al.nats {H : Hp} : ∀ {xs : List V} {l : List Nat}, Al rN H xs l → xs = l.map fun n : Nat => V.int (n : Int)
  | _, _, .nil => rfl
  | _, _, .cons h t => by rw [List.map_cons, ← Al.nats t, h]
theorem Al.ofNats {H : Hp} : ∀ l : List Nat, Al rN H (l.map fun n : Nat => V.int (n : Int)) l
  | [] => .nil
  | x :: l => .cons rfl (Al.ofNats l)
theorem Al.bools {H : Hp} : ∀ {xs : List V} {l : List Bool}, Al rB H xs l → xs = l.map V.bl
  | _, _, .nil => rfl
  | _, _, .cons h t => by rw [List.map_cons, ← Al.bools t, h]
theorem Al.ofBools {H : Hp} : ∀ l : List Bool, Al rB H (l.map V.bl) l
  | [] => .nil
  | x :: l => .cons rfl (Al.ofBools l)

/-! ### defs of the text, as the top leaves them -/
structure Def (K : PySem.W.Frag) (g : Str → Option Value) (name qual : Str) (st : Stmt) (ps : List Str) where
  f : Addr
  fd : FuncData
  F : Fun K name qual st f fd
  mg : g name = some (.ref f)
  b : Binds K fd ps []
abbrev Def.kp {K : PySem.W.Frag} {g : Str → Option Value} {name qual : Str} {st : Stmt} {ps : List Str} (d : Def K g name qual st ps) := d.F.kp
structure DefM (K : PySem.W.Frag) (C : Addr) (name qual : Str) (st : Stmt) (ps : List Str) where
  f : Addr
  fd : FuncData
  F : Fun K name qual st f fd
  m : Meth K C name f
  b : Binds K fd ps []
abbrev DefM.kp {K : PySem.W.Frag} {C : Addr} {name qual : Str} {st : Stmt} {ps : List Str} (d : DefM K C name qual st ps) := d.F.kp

/-- the int in a slot -/
def slotI (σ : L2.St) (i : Nat) : Int := match σ[i]? with
  | some (some (V.int k)) => k
  | _ => 0
/-! ### loops by a running value -/
section
variable {K : PySem.W.Frag} {tb : TS} {D : Ends} {σ : L2.St} {H : Hp} {α : Type} {g : TG}
/-- over a list that stands: Inv says what holds behind i turns -/
theorem for_lst {a : Addr} {xs : List V} (Pv : Nat → L2.St → Hp → Prop) (h0 : Pv 0 σ H) (hl : ∀ i σ' H', i ≤ xs.length → Pv i σ' H' → H' a = some (.lst xs))
    (hs : ∀ i x σ' H', xs[i]? = some x → Pv i σ' H' → g x σ' H' fun σ2 H2 => tb { D with nx := Pv (i + 1), ct := Pv (i + 1), bk := D.nx } σ2 H2) (hd : ∀ σ' H', Pv xs.length σ' H' → D.nx σ' H') :
    ∃ W : Nat → Nat → L2.St → Hp → Prop, (∃ m, W 0 m σ H) ∧ ∀ i m σ H, W i m σ H →
      ((Itl K a).stop i H ∧ D.nx σ H) ∨ ((Itl K a).go i H ∧ ∃ N : L2.St → Hp → Prop, (∀ σ' H', N σ' H' → ∃ m', m' < m ∧ W (i + 1) m' σ' H') ∧ ∀ x H', (Itl K a).yld i H x H' → g x σ H' fun σ2 H2 => tb { D with nx := N, ct := N, bk := D.nx } σ2 H2) :=
  for_list (K := K) (xs := xs) Pv h0 (fun i σ' H' hi h => SqL.of (hl i σ' H' hi h)) hs hd
/-- over a text's signs -/
theorem for_str {l : List Nat} (Pv : Nat → L2.St → Hp → Prop) (h0 : Pv 0 σ H)
    (hs : ∀ i c σ' H', l[i]? = some c → Pv i σ' H' → g (.str ⟨#[c]⟩) σ' H' fun σ2 H2 => tb { D with nx := Pv (i + 1), ct := Pv (i + 1), bk := D.nx } σ2 H2) (hd : ∀ σ' H', Pv l.length σ' H' → D.nx σ' H') :
    ∃ W : Nat → Nat → L2.St → Hp → Prop, (∃ m, W 0 m σ H) ∧ ∀ i m σ H, W i m σ H →
      ((Its ⟨l.toArray⟩).stop i H ∧ D.nx σ H) ∨ ((Its ⟨l.toArray⟩).go i H ∧ ∃ N : L2.St → Hp → Prop, (∀ σ' H', N σ' H' → ∃ m', m' < m ∧ W (i + 1) m' σ' H') ∧ ∀ x H', (Its ⟨l.toArray⟩).yld i H x H' → g x σ H' fun σ2 H2 => tb { D with nx := N, ct := N, bk := D.nx } σ2 H2) := by
  refine ⟨fun i m σ' H' => i + m = l.length ∧ Pv i σ' H', ⟨l.length, by omega, h0⟩, ?_⟩
  rintro i m σ' H' ⟨e, h⟩
  by_cases hi : i < l.length
  · refine .inr ⟨by show i < (l.toArray).size; rw [List.size_toArray]; exact hi, fun σ2 H2 => Pv (i + 1) σ2 H2, fun σ2 H2 q => ⟨m - 1, by omega, by omega, q⟩, ?_⟩
    rintro x H2 ⟨rfl, c, hc, rfl⟩
    refine hs i c σ' _ ?_ h
    have hc' : l.toArray[i]? = some c := hc
    rw [List.getElem?_toArray] at hc'
    exact hc'
  · refine .inl ⟨by show (l.toArray).size ≤ i; rw [List.size_toArray]; omega, ?_⟩
    have e2 : i = l.length := by omega
    rw [e2] at h
    exact hd _ _ h
/-- over enumerate of a list that stands -/
theorem for_enum {a : Addr} {xs : List V} (Pv : Nat → L2.St → Hp → Prop) (h0 : Pv 0 σ H) (hl : ∀ i σ' H', i ≤ xs.length → Pv i σ' H' → H' a = some (.lst xs))
    (hs : ∀ i x σ' H' T, xs[i]? = some x → Pv i σ' H' → H' T = none → g (.ref T) σ' (upd H' T (.tup [.int (i : Int), x])) fun σ2 H2 => tb { D with nx := Pv (i + 1), ct := Pv (i + 1), bk := D.nx } σ2 H2) (hd : ∀ σ' H', Pv xs.length σ' H' → D.nx σ' H') :
    ∃ W : Nat → Nat → L2.St → Hp → Prop, (∃ m, W 0 m σ H) ∧ ∀ i m σ H, W i m σ H →
      ((Ite K a).stop i H ∧ D.nx σ H) ∨ ((Ite K a).go i H ∧ ∃ N : L2.St → Hp → Prop, (∀ σ' H', N σ' H' → ∃ m', m' < m ∧ W (i + 1) m' σ' H') ∧ ∀ x H', (Ite K a).yld i H x H' → g x σ H' fun σ2 H2 => tb { D with nx := N, ct := N, bk := D.nx } σ2 H2) := by
  refine ⟨fun i m σ' H' => i + m = xs.length ∧ Pv i σ' H', ⟨xs.length, by omega, h0⟩, ?_⟩
  rintro i m σ' H' ⟨e, h⟩
  have hL := hl i σ' H' (by omega) h
  by_cases hi : i < xs.length
  · have hx : xs[i]? = some xs[i] := List.getElem?_eq_getElem hi
    refine .inr ⟨⟨xs, xs[i], SqL.of hL, hx⟩, fun σ2 H2 => Pv (i + 1) σ2 H2, fun σ2 H2 q => ⟨m - 1, by omega, by omega, q⟩, ?_⟩
    rintro v H2 ⟨T, x, rfl, hT, rfl, hx2⟩
    exact hs i x σ' H' T (hx2 xs (SqL.of hL)) h hT
  · have e2 : i = xs.length := by omega
    subst e2
    exact .inl ⟨⟨xs, SqL.of hL, Nat.le_refl _⟩, hd _ _ h⟩
end
end Fm
/-! lists of own lists (rows that a def fills) -/
namespace Fm
open PySem L2
/-- at p a list of lists of our own, made since H0: their rows -/
structure Mat {α : Type} (r : Rp α) (H0 H : Hp) (p : Addr) (qs : List Addr) (rows : List (List α)) : Prop where
  at_ : H p = some (.lst (qs.map V.ref))
  nd : qs.Nodup
  ne : p ∉ qs
  new : ∀ q ∈ qs, H0 q = none
  newp : H0 p = none
  len : qs.length = rows.length
  row : ∀ (i : Nat) (q : Addr) (row : List α), qs[i]? = some q → rows[i]? = some row → ∃ xs, H q = some (.lst xs) ∧ Al r H xs row
theorem Mat.get {α : Type} {r : Rp α} {H0 H : Hp} {p : Addr} {qs : List Addr} {rows : List (List α)} (M : Mat r H0 H p qs rows) {i : Nat} {row : List α} (h : rows[i]? = some row) :
    ∃ q xs, qs[i]? = some q ∧ q ∈ qs ∧ H q = some (.lst xs) ∧ Al r H xs row := by
  have hi : i < qs.length := by rw [M.len]; exact (List.getElem?_eq_some_iff.mp h).1
  have hq : qs[i]? = some qs[i] := List.getElem?_eq_getElem hi
  obtain ⟨xs, h1, h2⟩ := M.row i _ row hq h
  exact ⟨qs[i], xs, hq, List.getElem_mem hi, h1, h2⟩
/-- the rows stand where only things unknown to them, or objects that are not theirs, are written -/
theorem Mat.keep {α : Type} {r : Rp α} [Mo r] {H0 H H' : Hp} {p : Addr} {qs : List Addr} {rows : List (List α)} (M : Mat r H0 H p qs rows) {L : List Addr} (f : Fx L H H') (hp : p ∉ L) (hq : ∀ q ∈ qs, q ∉ L) : Mat r H0 H' p qs rows where
  at_ := f.keep _ _ hp M.at_
  nd := M.nd
  ne := M.ne
  new := M.new
  newp := M.newp
  len := M.len
  row := fun i q row h1 h2 => by
    obtain ⟨xs, a, b⟩ := M.row i q row h1 h2
    exact ⟨xs, f.keep _ _ (hq q (List.mem_of_getElem? h1)) a, Al.mo f b⟩
theorem Mat.fe {α : Type} {r : Rp α} [Mo r] {H0 H H' : Hp} {p : Addr} {qs : List Addr} {rows : List (List α)} (M : Mat r H0 H p qs rows) (f : Fe H H') : Mat r H0 H' p qs rows := M.keep f (fun q => nomatch q) (fun _ _ q => nomatch q)
/-- an item put behind a row -/
theorem Mat.put {α : Type} {r : Rp α} [Mo r] {H0 H : Hp} {p : Addr} {qs : List Addr} {rows : List (List α)} (M : Mat r H0 H p qs rows) {i : Nat} {q : Addr} {row : List α} {xs : List V} {v : V} {x : α}
    (hq : qs[i]? = some q) (hr : rows[i]? = some row) (hx : H q = some (.lst xs)) (ha : Al r H xs row) (h : r H v x) : Mat r H0 (upd H q (.lst (xs ++ [v]))) p qs (rows.set i (row ++ [x])) := by
  have hm := List.mem_of_getElem? hq
  have f : Fx [q] H (upd H q (.lst (xs ++ [v]))) := Fx.put hx (List.mem_singleton.mpr rfl) (fun _ z => nomatch z)
  have np : p ≠ q := fun e => M.ne (e ▸ hm)
  refine ⟨by rw [upd_ne np]; exact M.at_, M.nd, M.ne, M.new, M.newp, by rw [List.length_set]; exact M.len, fun j q' row' h1 h2 => ?_⟩
  by_cases e : i = j
  · subst e
    rw [hq] at h1; cases h1
    rw [List.getElem?_set, if_pos rfl, if_pos (List.getElem?_eq_some_iff.mp hr).1] at h2
    cases h2
    exact ⟨_, upd_same, Al.snoc (Mo.mo (r := r) f h) (Al.mo f ha)⟩
  · rw [List.getElem?_set, if_neg e] at h2
    have ne : q' ≠ q := fun z => e (nd_ix M.nd hq (z ▸ h1))
    obtain ⟨ys, a, b⟩ := M.row j q' row' h1 h2
    exact ⟨ys, by rw [upd_ne ne]; exact a, Al.mo f b⟩
theorem Mat.rl {α : Type} {r : Rp α} {H0 H : Hp} {p : Addr} {qs : List Addr} {rows : List (List α)} (M : Mat r H0 H p qs rows) : rL (rL r) H (.ref p) rows := by
  refine ⟨p, _, rfl, M.at_, ?_⟩
  have := M.row
  have hl := M.len
  clear M
  induction qs generalizing rows with
  | nil =>
    cases rows with
    | nil => exact .nil
    | cons r rs => cases hl
  | cons q qs ih =>
    cases rows with
    | nil => cases hl
    | cons r rs =>
      obtain ⟨xs, a, b⟩ := this 0 q r rfl rfl
      exact .cons ⟨q, xs, rfl, a, b⟩ (ih (fun i q row h1 h2 => this (i + 1) q row h1 h2) (by simpa using hl))
/-- behind i turns of [[] for _ in ..]: D the new list -/
def MatC (H1 : Hp) (D : Addr) (i : Nat) (H' : Hp) : Prop := H1 D = none ∧ Fe H1 H' ∧ ∃ qs : List Addr, qs.length = i ∧ H' D = some (.lst (qs.map V.ref)) ∧ qs.Nodup ∧ D ∉ qs ∧ ∀ q ∈ qs, H1 q = none ∧ H' q = some (.lst [])
theorem MatC.start {H1 : Hp} {D : Addr} (h : H1 D = none) : MatC H1 D 0 (upd H1 D (.lst [])) :=
  ⟨h, Fe.new h, [], rfl, upd_same, List.nodup_nil, (by simp), (by simp)⟩
theorem MatC.turn {H1 H' : Hp} {D : Addr} {i : Nat} (m : MatC H1 D i H') (hi : i < 1000000) {p : Addr} (hp : H' p = none) :
    ∃ acc, (upd H' p (.lst [])) D = some (.lst acc) ∧ acc.length < sizeLine ∧ MatC H1 D (i + 1) (upd (upd H' p (.lst [])) D (.lst (acc ++ [.ref p]))) := by
  obtain ⟨h1, f, qs, hl, hD, nd, ne, hq⟩ := m
  have nDp : D ≠ p := ne_of_none hD hp
  have np : p ∉ qs := fun z => by
    have := (hq p z).2
    rw [hp] at this; cases this
  refine ⟨qs.map V.ref, by rw [upd_ne nDp]; exact hD, by rw [List.length_map, sizeLine_eq]; omega, h1, (f.trans (Fe.new hp)).mut h1, qs ++ [p], by rw [List.length_append, List.length_singleton, hl], by rw [upd_same, List.map_append]; rfl, ?_, ?_, ?_⟩
  · rw [List.nodup_append]
    refine ⟨nd, by simp, fun a ha b hb => ?_⟩
    rw [List.mem_singleton.mp hb]
    exact fun z => np (z ▸ ha)
  · rw [List.mem_append, List.mem_singleton]
    exact fun z => z.elim ne nDp
  · intro q z
    rcases List.mem_append.mp z with z | z
    · have a : q ≠ D := fun e => ne (e ▸ z)
      have b : q ≠ p := fun e => np (e ▸ z)
      exact ⟨(hq q z).1, by rw [upd_ne a, upd_ne b]; exact (hq q z).2⟩
    · rw [List.mem_singleton.mp z]
      exact ⟨f.free hp, by rw [upd_ne nDp.symm, upd_same]⟩
theorem MatC.mat {α : Type} {r : Rp α} {H0 H1 H' : Hp} {D : Addr} {n : Nat} (m : MatC H1 D n H') (e : Fe H0 H1) : ∃ qs, Mat r H0 H' D qs (List.replicate n ([] : List α)) := by
  obtain ⟨h1, f, qs, hl, hD, nd, ne, hq⟩ := m
  refine ⟨qs, hD, nd, ne, fun q z => e.free (hq q z).1, e.free h1, by rw [List.length_replicate, hl], fun i q row a b => ⟨[], (hq q (List.mem_of_getElem? a)).2, ?_⟩⟩
  rw [List.getElem?_replicate] at b
  split at b
  · cases b; exact .nil
  · cases b
/-- its turn, as the block asks it -/
theorem MatC.go {H1 H' : Hp} {D : Addr} {i : Nat} {σ2 : L2.St} (m : MatC H1 D i H') (hi : i < 1000000) :
    tYes σ2 H' fun b H3 => if b = true then tLst tNil σ2 H3 fun y H4 => ∃ acc, H4 D = some (.lst acc) ∧ acc.length < sizeLine ∧ MatC H1 D (i + 1) (upd H4 D (.lst (acc ++ [y]))) else MatC H1 D (i + 1) H3 := by
  refine iteT (B := MatC H1 D (i + 1) H') ?_
  exact ⟨Nat.zero_le _, fun p hp => m.turn hi hp⟩

/-! ### comprehensions, what has been made so far -/
/-- D, new since H1, holds the items l -/
structure Cmp {β : Type} (r : Rp β) (H1 : Hp) (D : Addr) (l : List β) (H' : Hp) : Prop where
  new : H1 D = none
  fe : Fe H1 H'
  ex : ∃ acc, H' D = some (.lst acc) ∧ Al r H' acc l
theorem Cmp.start {β : Type} {r : Rp β} {H1 : Hp} {D : Addr} (h : H1 D = none) : Cmp r H1 D [] (upd H1 D (.lst [])) := ⟨h, Fe.new h, [], upd_same, .nil⟩
theorem Cmp.add {β : Type} {r : Rp β} [Mo r] {H1 H' H4 : Hp} {D : Addr} {l : List β} {y : V} {x : β} (c : Cmp r H1 D l H') (hl : l.length < 1000000) (f : Fe H' H4) (h : r H4 y x) :
    ∃ acc, H4 D = some (.lst acc) ∧ acc.length < sizeLine ∧ Cmp r H1 D (l ++ [x]) (upd H4 D (.lst (acc ++ [y]))) := by
  obtain ⟨n, e, acc, hD, ha⟩ := c
  have fD : Fx [D] H4 (upd H4 D (.lst (acc ++ [y]))) := Fx.put (f.k hD) (List.mem_singleton.mpr rfl) (fun _ z => nomatch z)
  exact ⟨acc, f.k hD, by rw [ha.len, sizeLine_eq]; omega, n, (e.trans f).mut n, acc ++ [y], upd_same, Al.snoc (Mo.mo (r := r) fD h) (Al.mo fD (Al.mo f ha))⟩
theorem Cmp.skip {β : Type} {r : Rp β} [Mo r] {H1 H' H4 : Hp} {D : Addr} {l : List β} (c : Cmp r H1 D l H') (f : Fe H' H4) : Cmp r H1 D l H4 := by
  obtain ⟨n, e, acc, hD, ha⟩ := c
  exact ⟨n, e.trans f, acc, f.k hD, Al.mo f ha⟩
theorem Cmp.rl {β : Type} {r : Rp β} {H1 H' : Hp} {D : Addr} {l : List β} (c : Cmp r H1 D l H') : rL r H' (.ref D) l := by
  obtain ⟨n, e, acc, hD, ha⟩ := c
  exact ⟨D, acc, rfl, hD, ha⟩
section
variable {g : TG} {tt : TT} {te : TE} {vs : List Nat} {σ : L2.St} {H1 : Hp} {D : Addr} {Qd : Hp → Prop} {J : It}
/-- the turns of a comprehension whose walk has n items -/
theorem lc_by (n : Nat) (Pv : Nat → Hp → Prop) (h0 : Pv 0 (upd H1 D (.lst []))) (hgo : ∀ i H, i < n → Pv i H → J.go i H) (hstop : ∀ H, Pv n H → J.stop n H)
    (hs : ∀ i x H H', i < n → Pv i H → J.yld i H x H' → g x (wipe σ vs) H' fun σ2 H2 => wipe σ2 vs = wipe σ vs ∧ tt σ2 H2 fun b H3 =>
      if b = true then te σ2 H3 fun y H4 => ∃ acc, H4 D = some (.lst acc) ∧ acc.length < sizeLine ∧ Pv (i + 1) (upd H4 D (.lst (acc ++ [y]))) else Pv (i + 1) H3) (hd : ∀ H, Pv n H → Qd H) :
    ∃ W : Nat → Nat → Hp → Prop, (∃ m, W 0 m (upd H1 D (.lst []))) ∧ ∀ i m H, W i m H →
      (J.stop i H ∧ Qd H) ∨ (J.go i H ∧ ∃ Nx : Hp → Prop, (∀ H', Nx H' → ∃ m', m' < m ∧ W (i + 1) m' H') ∧ ∀ x H', J.yld i H x H' → g x (wipe σ vs) H' fun σ2 H2 => wipe σ2 vs = wipe σ vs ∧ tt σ2 H2 fun b H3 =>
        if b = true then te σ2 H3 fun y H4 => ∃ acc, H4 D = some (.lst acc) ∧ acc.length < sizeLine ∧ Nx (upd H4 D (.lst (acc ++ [y]))) else Nx H3) := by
  refine ⟨fun i m H => i + m = n ∧ Pv i H, ⟨n, by omega, h0⟩, ?_⟩
  rintro i m H ⟨e, h⟩
  by_cases hi : i < n
  · exact .inr ⟨hgo i H hi h, fun H2 => Pv (i + 1) H2, fun H2 q => ⟨m - 1, by omega, by omega, q⟩, fun x H' y => hs i x H H' hi h y⟩
  · have e2 : i = n := by omega
    subst e2
    exact .inl ⟨hstop _ h, hd _ h⟩
end
section
variable {tb : TS} {D : Ends} {σ : L2.St} {H : Hp} {g : TG} {J : It}
/-- .. of a for -/
theorem for_by (n : Nat) (Pv : Nat → L2.St → Hp → Prop) (h0 : Pv 0 σ H) (hgo : ∀ i σ' H', i < n → Pv i σ' H' → J.go i H') (hstop : ∀ σ' H', Pv n σ' H' → J.stop n H')
    (hs : ∀ i x σ' H' H2, i < n → Pv i σ' H' → J.yld i H' x H2 → g x σ' H2 fun σ2 H3 => tb { D with nx := Pv (i + 1), ct := Pv (i + 1), bk := D.nx } σ2 H3) (hd : ∀ σ' H', Pv n σ' H' → D.nx σ' H') :
    ∃ W : Nat → Nat → L2.St → Hp → Prop, (∃ m, W 0 m σ H) ∧ ∀ i m σ H, W i m σ H →
      (J.stop i H ∧ D.nx σ H) ∨ (J.go i H ∧ ∃ N : L2.St → Hp → Prop, (∀ σ' H', N σ' H' → ∃ m', m' < m ∧ W (i + 1) m' σ' H') ∧ ∀ x H', J.yld i H x H' → g x σ H' fun σ2 H2 => tb { D with nx := N, ct := N, bk := D.nx } σ2 H2) := by
  refine ⟨fun i m σ' H' => i + m = n ∧ Pv i σ' H', ⟨n, by omega, h0⟩, ?_⟩
  rintro i m σ' H' ⟨e, h⟩
  by_cases hi : i < n
  · exact .inr ⟨hgo i _ _ hi h, fun σ2 H2 => Pv (i + 1) σ2 H2, fun σ2 H2 q => ⟨m - 1, by omega, by omega, q⟩, fun x H2 y => hs i x σ' H' H2 hi h y⟩
  · have e2 : i = n := by omega
    subst e2
    exact .inl ⟨hstop _ _ h, hd _ _ h⟩
end
/-- zip of two lists that stand: a new pair each turn -/
theorem zip_go {K : PySem.W.Frag} {a b : Addr} {xs ys : List V} {H : Hp} (ha : H a = some (.lst xs)) (hb : H b = some (.lst ys)) {i : Nat} (hx : i < xs.length) (hy : i < ys.length) : (Itz K a b).go i H :=
  ⟨xs, ys, xs[i], ys[i], SqL.of ha, SqL.of hb, List.getElem?_eq_getElem hx, List.getElem?_eq_getElem hy⟩
theorem zip_stop {K : PySem.W.Frag} {a b : Addr} {xs ys : List V} {H : Hp} (ha : H a = some (.lst xs)) (hb : H b = some (.lst ys)) {i : Nat} (hx : xs.length ≤ i) : (Itz K a b).stop i H :=
  ⟨xs, ys, SqL.of ha, SqL.of hb, .inl hx⟩
theorem zip_yld {K : PySem.W.Frag} {a b : Addr} {xs ys : List V} {H H' : Hp} {v : V} (ha : H a = some (.lst xs)) (hb : H b = some (.lst ys)) {i : Nat} (h : (Itz K a b).yld i H v H') :
    ∃ T x y, v = .ref T ∧ H T = none ∧ H' = upd H T (.tup [x, y]) ∧ xs[i]? = some x ∧ ys[i]? = some y := by
  obtain ⟨T, x, y, h1, h2, h3, h4, h5⟩ := h
  exact ⟨T, x, y, h1, h2, h3, h4 _ (SqL.of ha), h5 _ (SqL.of hb)⟩
theorem enum_go {K : PySem.W.Frag} {a : Addr} {xs : List V} {H : Hp} (ha : H a = some (.lst xs)) {i : Nat} (hx : i < xs.length) : (Ite K a).go i H := ⟨xs, xs[i], SqL.of ha, List.getElem?_eq_getElem hx⟩
theorem enum_stop {K : PySem.W.Frag} {a : Addr} {xs : List V} {H : Hp} (ha : H a = some (.lst xs)) {i : Nat} (hx : xs.length ≤ i) : (Ite K a).stop i H := ⟨xs, SqL.of ha, hx⟩
theorem enum_yld {K : PySem.W.Frag} {a : Addr} {xs : List V} {H H' : Hp} {v : V} (ha : H a = some (.lst xs)) {i : Nat} (h : (Ite K a).yld i H v H') :
    ∃ T x, v = .ref T ∧ H T = none ∧ H' = upd H T (.tup [.int (i : Int), x]) ∧ xs[i]? = some x := by
  obtain ⟨T, x, h1, h2, h3, h4⟩ := h
  exact ⟨T, x, h1, h2, h3, h4 _ (SqL.of ha)⟩
end Fm
/-! the layer's rules with the written part by name, so that what they ask does not speak of the block they stand in -/
namespace Fm
open PySem PySem.Spec PyProof.Rows L2
section
variable {X : Cx} {K : PySem.W.Frag} {tg e e2 o value : Expr} {es : List Expr} {te ta tv : TE} {t : TA} {tgs : TGs} {pos p tpos apos cpos : Pos} {f : Str} {k kk n : Nat} {elts : List Expr}
theorem kg_tup (n : Nat) (h : X.K = K) (hc : X.calm = true) (hs : PGs X es tgs) (hn : (assignEach es X.env).length = n := by rfl) (hst : (assignEach es X.env).findIdx? (·.1) = none := by rfl) :
    PG X (.Tuple es k pos) (gTup K n tgs) := by
  subst h
  exact pg_tup hc hs hn hst
theorem ki_list (h : X.K = K) (he : PE X e te) : PI X tg e (iList K te) := by subst h; exact pi_list he
theorem ki_tup (h : X.K = K) (he : PE X e te) : PI X tg e (iTup K te) := by subst h; exact pi_tup he
theorem kx_list (h : X.K = K) : IxR X (rIxL K) := by subst h; exact ix_list
theorem kx_tup (h : X.K = K) : IxR X (rIxT K) := by subst h; exact ix_tup
def rLen (K : PySem.W.Frag) : List V → Hp → VK → Prop := fun xs H Q => ∃ p ys, xs = [.ref p] ∧ (SqL K H p ys ∨ SqT K H p ys) ∧ Q (.int ys.length) H
theorem kc_len (h : X.K = K) : CallR X (.builtin "len") (rLen K) := by subst h; exact call_len_seq
def rLenS : List V → Hp → VK → Prop := fun xs H Q => ∃ z, xs = [.str z] ∧ z.length ≤ sizeLine ∧ Q (.int z.length) H
theorem kc_lenS : CallR X (.builtin "len") rLenS := call_len_str
def rLst (K : PySem.W.Frag) : List V → Hp → VK → Prop := fun xs H Q => ∃ p ys, xs = [.ref p] ∧ (SqL K H p ys ∨ SqT K H p ys) ∧ ∀ l, H l = none → Q (.ref l) (upd H l (.lst ys))
theorem kc_list (h : X.K = K) : CallR X (.type "list") (rLst K) := by subst h; exact call_list_of
def rTpl (K : PySem.W.Frag) : List V → Hp → VK → Prop := fun xs H Q => ∃ p ys, xs = [.ref p] ∧ ((SqL K H p ys ∧ ∀ l, H l = none → Q (.ref l) (upd H l (.tup ys))) ∨ (SqT K H p ys ∧ Q (.ref p) H))
theorem kc_tuple (h : X.K = K) : CallR X (.type "tuple") (rTpl K) := by subst h; exact call_tuple_of
theorem ke_fld (h : X.K = K) (he : PE X e te) (hb : attributeBase e f X.env (eval e X.env) = eval e X.env) : PE X (.Attribute e f pos) (tFld K te f) := by
  subst h; exact pe_fld he hb
theorem ks_fld (h : X.K = K) (ha : PE X o ta) (hv : PE X value tv) (hs : swapsWith value (some (.Attribute o f tpos)) pos.line X.env = pure false) : PS X (.Assign [.Attribute o f tpos] value pos) (sFld K ta tv f) := by
  subst h; exact ps_fld ha hv hs
section
variable {T id : String} {name : Str} {r : V → List V → Hp → VK → Prop} {to : TE}
theorem ke_bm0 (h : X.K = K) (pa : PlainAttrs T) (slot : Slot T name id) (hty : typeOf (.builtin id) = pure (.type "method_descriptor")) (hm : MtR X id r) (ho : PE X o to)
    (hbase : attributeBase o name X.env (eval o X.env) = eval o X.env := by rfl) (hline : (apos.endLine == cpos.line) = true := by rfl) :
    PE X (.Call (.Attribute o name apos) [] [] cpos) (tBM0 K T r to) := by
  subst h; exact pe_bm0 pa slot hty hm ho hbase hline
theorem ke_bm (h : X.K = K) (pa : PlainAttrs T) (slot : Slot T name id) (hty : typeOf (.builtin id) = pure (.type "method_descriptor")) (hm : MtR X id r) (ho : PE X o to) (ha : PA X (e :: es) t)
    (hbase : attributeBase o name X.env (eval o X.env) = eval o X.env := by rfl)
    (hfew : ((backTo cpos (starEach (e :: es) X.env)).all (fun x => !x.1) && (backToKw cpos (keywordEach [] X.env)).all (fun x => x.1.isSome)
      && decide ((e :: es).length + ([] : List Keyword).length + (if ([] : List Keyword).isEmpty then 0 else 1) < 30)) = true := by rfl)
    (hline : (apos.endLine == cpos.line) = true := by rfl) (hs : starEach (e :: es) X.env = (false, eval e X.env) :: starEach es X.env := by rfl)
    (hplain : (backTo cpos (starEach es X.env)).any (·.1) = false := by rfl) :
    PE X (.Call (.Attribute o name apos) (e :: es) [] cpos) (tBM K T r to t) := by
  subst h; exact pe_bm pa slot hty hm ho ha hbase hfew hline hs hplain
end
theorem ko_in (h : X.K = K) : OpR X (compareOp .In) (rIn K false) := by subst h; exact op_in_seq
theorem ko_notIn (h : X.K = K) : OpR X (compareOp .NotIn) (rIn K true) := by subst h; exact op_notIn_seq
theorem kl_list (h : X.K = K) : SlR X (rSlL K) := by subst h; exact sl_list
theorem kl_tup (h : X.K = K) : SlR X (rSlT K) := by subst h; exact sl_tup
theorem ki_enum (h : X.K = K) (hg : Gl X "enumerate") (hm : X.mg "enumerate" = none) (ha : PA X [e] t) (hs : starEach [e] X.env = [(false, eval e X.env)] := by rfl) :
    PI X (.Tuple elts kk tpos) (.Call (.Name "enumerate" p) [e] [] pos) (iEnum K t) := by
  subst h; exact pi_enum hg hm ha hs
theorem ki_zip (h : X.K = K) (hg : Gl X "zip") (hm : X.mg "zip" = none) (ha : PA X [e, e2] t) (hs : starEach [e, e2] X.env = (false, eval e X.env) :: starEach [e2] X.env := by rfl)
    (hpl : (backTo pos (starEach [e2] X.env)).any (·.1) = false := by rfl) : PI X (.Tuple elts kk tpos) (.Call (.Name "zip" p) [e, e2] [] pos) (iZip K t) := by
  subst h; exact pi_zip hg hm ha hs hpl
theorem ki_zipA (h : X.K = K) (hg : Gl X "zip") (hm : X.mg "zip" = none) (ha : PA X [e, e2] t) (hs : starEach [e, e2] X.env = (false, eval e X.env) :: starEach [e2] X.env := by rfl)
    (hpl : (backTo pos (starEach [e2] X.env)).any (·.1) = false := by rfl) : PI X (.Tuple elts kk tpos) (.Call (.Name "zip" p) [e, e2] [] pos) (RZ.iZipA K t) := by
  subst h; exact RZ.pi_zipA hg hm ha hs hpl
theorem ki_rev (h : X.K = K) (hg : Gl X "reversed") (hm : X.mg "reversed" = none) (ha : PA X [e] t) (hs : starEach [e] X.env = [(false, eval e X.env)] := by rfl) :
    PI X tg (.Call (.Name "reversed" p) [e] [] pos) (iRev K t) := by
  subst h; exact pi_reversed hg hm ha hs
def tTruth (K : PySem.W.Frag) (te : TE) : TT := fun σ H Q => te σ H fun x H' => ∃ k, TruV K x H' k ∧ Q k H'
theorem kt_truth (h : X.K = K) (ha : PE X e te) (he : ∀ whole, isTrue e X.env whole = (do let v ← whole; standAt e.pos; holding [v] (truthy v)) := by intro _; rfl) : PT X e (tTruth K te) := by
  subst h; exact pt_truth ha he
theorem kc_min (h : X.K = K) (hc : X.calm = true) : CallR X (.builtin "min") (rMin K) := by subst h; exact cr_min hc
theorem kc_max (h : X.K = K) (hc : X.calm = true) : CallR X (.builtin "max") (rMax K) := by subst h; exact cr_max hc
theorem kc_sum (h : X.K = K) (hc : X.calm = true) : CallR X (.builtin "sum") (rSum K) := by subst h; exact cr_sum hc
theorem kc_sorted (h : X.K = K) : CallR X (.builtin "sorted") (rSorted K) := by subst h; exact cr_sorted
theorem kc_sortedS (h : X.K = K) : CallR X (.builtin "sorted") (rSortedS K) := by subst h; exact cr_sortedS
theorem ko_catT (h : X.K = K) : OpR X (binaryOp .Add) (rCatT K) := by subst h; exact op_catT
theorem ko_eqD (h : X.K = K) (hu : X.A.units + 64 < cLine) : OpR X (compareOp .Eq) (rEqD K) := by subst h; exact op_eqD hu
theorem ko_neD (h : X.K = K) (hu : X.A.units + 64 < cLine) : OpR X (compareOp .NotEq) (rNeD K) := by subst h; exact op_neD hu
theorem ke_rev {k : Nat} {p1 p2 p3 : Pos} (h : X.K = K) (he : PE X e te) : PE X (.Subscript e (.Slice none none (some (.UnaryOp .USub (.Constant (.int 1) k p1) p2)) p3) pos) (tRevL K te) := by
  subst h; exact pe_revL he
theorem kc_isi (h : X.K = K) : CallR X (.builtin "isinstance") (rIsi K) := by subst h; exact call_isi
def rSrtDS : List V → Hp → VK → Prop := fun xs H Q => ∃ (a : Addr) (kvs : List (Key × V)) (ks : List Str), xs = [.ref a] ∧ Rd H a (.dK kvs) ∧ kvs.map (·.1) = ks.map Sum.inr ∧ ks.length < 64 ∧
    ∀ ys p, ys.Perm ks → sortedS ys = true → H p = none → Q (.ref p) (upd H p (.lst (ys.map V.str)))
theorem kc_sortedDS (hc : X.calm = true) : CallR X (.builtin "sorted") rSrtDS := call_sortedD hc
def rKeys : List V → Hp → VK → Prop := fun xs H Q => ∃ (a : Addr) (kvs : List (Key × V)), xs = [.ref a] ∧ Rd H a (.dK kvs) ∧ ∀ p, H p = none → Q (.ref p) (upd H p (.lst (kvs.map fun kv => kV kv.1)))
theorem kc_listD (hc : X.calm = true) : CallR X (.type "list") rKeys := call_listD hc
end
end Fm
/-! dicts that are used as sets: every value True -/
namespace Fm
open PySem L2
section
variable {α : Type} [DecidableEq α]
def ins (a : α) (ks : List α) : List α := if a ∈ ks then ks else ks ++ [a]
theorem mem_ins {a b : α} {ks : List α} : b ∈ ins a ks ↔ b = a ∨ b ∈ ks := by
  unfold ins
  split
  · rename_i h
    exact ⟨.inr, fun z => z.elim (fun e => e ▸ h) id⟩
  · rw [List.mem_append, List.mem_singleton]
    exact ⟨fun z => z.elim .inr .inl, fun z => z.elim .inr .inl⟩
theorem nd_ins {a : α} {ks : List α} (h : ks.Nodup) : (ins a ks).Nodup := by
  unfold ins
  split
  · exact h
  · rename_i hn
    rw [List.nodup_append]
    exact ⟨h, by simp, fun x hx y hy => by rw [List.mem_singleton.mp hy]; exact fun e => hn (e ▸ hx)⟩
theorem len_ins (a : α) (ks : List α) : (ins a ks).length ≤ ks.length + 1 := by
  unfold ins
  split
  · omega
  · rw [List.length_append, List.length_singleton]; omega
variable (f : α → Key)
def tks (ks : List α) : List (Key × V) := ks.map fun a => (f a, V.bl true)
theorem tks_keys (ks : List α) : (tks f ks).map (·.1) = ks.map f := by
  unfold tks
  rw [List.map_map]; rfl
theorem tks_len (ks : List α) : (tks f ks).length = ks.length := List.length_map _
theorem tks_put (hf : ∀ a b, f a = f b → a = b) (a : α) (ks : List α) : putK (tks f ks) (f a) (.bl true) = tks f (ins a ks) := by
  have hany : ((tks f ks).any fun kv => decide (kv.1 = f a)) = true ↔ a ∈ ks := by
    rw [List.any_eq_true]
    constructor
    · rintro ⟨kv, h1, h2⟩
      obtain ⟨b, hb, rfl⟩ := List.mem_map.mp h1
      have := hf _ _ (of_decide_eq_true h2)
      exact this ▸ hb
    · intro h
      exact ⟨(f a, .bl true), List.mem_map.mpr ⟨a, h, rfl⟩, by simp⟩
  unfold putK ins
  by_cases h : a ∈ ks
  · rw [if_pos (hany.mpr h), if_pos h]
    unfold tks
    rw [List.map_map]
    refine List.map_congr_left fun b _ => ?_
    show (if f b = f a then (f b, V.bl true) else (f b, V.bl true)) = _
    split <;> rfl
  · rw [if_neg (fun z => h (hany.mp z)), if_neg h]
    unfold tks
    rw [List.map_append]; rfl
end
def kN (n : Nat) : Key := .inl (n : Int)
def kS (l : List Nat) : Key := .inr ⟨l.toArray⟩
theorem kN_inj (a b : Nat) (h : kN a = kN b) : a = b := by
  have := Sum.inl.inj h
  omega
theorem str_inj {a b : List Nat} (h : (⟨a.toArray⟩ : Str) = ⟨b.toArray⟩) : a = b := by
  have := congrArg Str.cps h
  simpa using this
theorem kS_inj (a b : List Nat) (h : kS a = kS b) : a = b := str_inj (Sum.inr.inj h)
/-- different numbers below N are at most N -/
theorem nodup_below : ∀ (N : Nat) (l : List Nat), l.Nodup → (∀ x ∈ l, x < N) → l.length ≤ N
  | 0, l, _, h => by
    cases l with
    | nil => exact Nat.le_refl _
    | cons x l => exact absurd (h x List.mem_cons_self) (by omega)
  | N + 1, l, hn, h => by
    have h1 : (l.erase N).Nodup := hn.erase N
    have h2 : ∀ x ∈ l.erase N, x < N := fun x hx => by
      have a := h x (List.mem_of_mem_erase hx)
      have b : x ≠ N := fun e => by rw [e] at hx; exact (List.Nodup.not_mem_erase hn) hx
      omega
    have h3 := nodup_below N _ h1 h2
    by_cases hm : N ∈ l
    · have := List.length_erase_of_mem hm
      have : 0 < l.length := List.length_pos_of_mem hm
      omega
    · rw [List.erase_of_not_mem hm] at h3
      omega
def rSrtDI : List V → Hp → VK → Prop := fun xs H Q => ∃ (a : Addr) (kvs : List (Key × V)) (ks : List Int), xs = [.ref a] ∧ Rd H a (.dK kvs) ∧ kvs.map (·.1) = ks.map Sum.inl ∧ ks.length < 64 ∧
    ∀ (ys : List Int) (p : Addr), ys.Perm ks → ys.Pairwise (· ≤ ·) → H p = none → Q (.ref p) (upd H p (.lst (ys.map V.int)))
theorem kc_sortedDI {X : Cx} (hc : X.calm = true) : CallR X (.builtin "sorted") rSrtDI := call_sortedDI hc
/-- whole numbers from naturals, back -/
theorem ints_back {l : List Int} (h : ∀ x ∈ l, 0 ≤ x) : l = (l.map Int.toNat).map fun n : Nat => (n : Int) := by
  rw [List.map_map]
  induction l with
  | nil => rfl
  | cons x l ih =>
    rw [List.map_cons, ← ih fun y hy => h y (List.mem_cons_of_mem _ hy)]
    have := h x List.mem_cons_self
    show x :: l = ((x.toNat : Nat) : Int) :: l
    rw [Int.toNat_of_nonneg this]
theorem perm_nats {ys : List Int} {ks : List Nat} (h : ys.Perm (ks.map fun n : Nat => (n : Int))) : ∃ l : List Nat, ys = l.map (fun n : Nat => (n : Int)) ∧ l.Perm ks := by
  refine ⟨ys.map Int.toNat, ints_back fun x hx => ?_, ?_⟩
  · obtain ⟨n, _, rfl⟩ := List.mem_map.mp (h.mem_iff.mp hx)
    omega
  · have := h.map Int.toNat
    rw [List.map_map] at this
    have e : ks.map (Int.toNat ∘ fun n : Nat => (n : Int)) = ks := by
      conv => rhs; rw [← List.map_id ks]
      exact List.map_congr_left fun n _ => Int.toNat_natCast n
    rw [e] at this
    exact this
/-- the text's own slices -/
theorem cut_from (l : List Nat) (k : Nat) : cutS ⟨l.toArray⟩ (some (k : Int)) none = ⟨(l.drop k).toArray⟩ := by
  unfold cutS
  have hl : (⟨l.toArray⟩ : Str).length = l.length := by show l.toArray.size = _; rw [List.size_toArray]
  rw [hl, HT.sIx_nat]
  show (⟨((l.drop (min k l.length)).take (l.length - min k l.length)).toArray⟩ : Str) = _
  congr 2
  by_cases h : k ≤ l.length
  · rw [Nat.min_eq_left h, List.take_of_length_le (by rw [List.length_drop]; exact Nat.le_refl _)]
  · rw [Nat.min_eq_right (by omega), List.drop_of_length_le (Nat.le_refl _), List.drop_of_length_le (by omega), List.take_nil]
theorem slen (l : List Nat) : (⟨l.toArray⟩ : Str).length = l.length := by show l.toArray.size = _; rw [List.size_toArray]
end Fm
/-! dicts with keys that are tuples of ints and texts: comprehensions, displays -/
namespace Fm
open PySem PySem.Spec PyProof.Rows L2
section
variable {X : Cx} {pins : List (Addr × Obj)} {σ : L2.St} {H : Hp} {s : Shared}
/-- the store of a comprehension, whatever the keys are -/
theorem comp_store {H' : Hp} {d : Addr} {y v : V} {ku vu : Value} {E : Value → Shared → Prop} {Q : Unit → Shared → Prop} (hu : X.A.units < cLine) (I : Inv X pins σ H s) (g : DPut H d y v H') (ry : RelV y ku) (rv : RelV v vu)
    (k : ∀ s', Inv X pins σ H' s' → Q () s') : wpAny (model X.prog X.w) X.A (dictSet d ku vu) Q E s := by
  rcases g with ⟨kvs, q, e, rfl, l, rfl⟩ | ⟨kvs, q, b, e, rfl, eb, l, rfl⟩
  · exact d_dictSet I e l ry rv k
  · cases (show ku = Value.ref b from ry)
    obtain ⟨z, hd, xs, rel, dd⟩ := dt_of I.hok e
    have len := Paired.length rel
    have most : (putK kvs q v).length ≤ sizeLine := Nat.le_trans (length_putK kvs q v) l
    refine wpAny_dictSet_heap (knd := tupleKind (mixKind X.prog X.w)) (hsz := by rw [← len]; exact z) hu (key_of I.hok eb) dd fun h' dd' hs => k _ ?_
    obtain ⟨o, es, ep, a1, a2, a3, a4, _, a6⟩ := dd'
    refine d_write I (by rw [e]; exact True.intro) hs ⟨o, a1⟩ ⟨most, hd, _, (rel.put q eb rv).keeps fun c ys ec => ?_, o, es, ep, a1, a2, a3, a4, a6⟩
    rw [upd_ne (ne_of ec e (fun z => nomatch z))]
    exact ec
end
/-- {key: value for target in iter if ..} from the empty dict o: D the new one -/
def tDcP (o : HO) (wi : TI) (g : TG) (tt : TT) (tk tv : TE) (vs : List Nat) : TE := fun σ H Q => wi σ H fun J H1 => ∀ D, H1 D = none → ∃ W : Nat → Nat → Hp → Prop, (∃ m, W 0 m (upd H1 D o)) ∧ ∀ i m H, W i m H →
  (J.stop i H ∧ Q (.ref D) H) ∨ (J.go i H ∧ ∃ Nx : Hp → Prop, (∀ H', Nx H' → ∃ m', m' < m ∧ W (i + 1) m' H') ∧ ∀ x H', J.yld i H x H' → g x (wipe σ vs) H' fun σ2 H2 => wipe σ2 vs = wipe σ vs ∧ tt σ2 H2 fun b H3 =>
    if b = true then tk σ2 H3 fun y H4 => tv σ2 H4 fun z H5 => ∃ H6, DPut H5 D y z H6 ∧ Nx H6 else Nx H3)
section
variable {X : Cx} {kx vx tg iter : Expr} {ifs : List Expr} {scope : Scope} {own : List (Str × Nat)} {pos : Pos} {wi : TI} {g : TG} {tt : TT} {tk tv : TE} {o : HO}
theorem ke_dc (ho : o = .dK [] ∨ o = .dT []) (hu : X.A.units < cLine) (hc : X.calm = true) (hN : X.N.Nodup) (hi : PI X tg iter wi) (ok : BlkOk X.N X.env.scope scope own)
    (hg : ∀ (s : Shared) (H : Hp) (C : Addr) (cl : List (Str × Addr)) (fp : List Addr), PG (X.blk s H scope (compEnvC scope cl C X.env) fp) tg g)
    (ht : ∀ (s : Shared) (H : Hp) (C : Addr) (cl : List (Str × Addr)) (fp : List Addr), PTs (X.blk s H scope (compEnvC scope cl C X.env) fp) ifs tt)
    (hk : ∀ (s : Shared) (H : Hp) (C : Addr) (cl : List (Str × Addr)) (fp : List Addr), PE (X.blk s H scope (compEnvC scope cl C X.env) fp) kx tk)
    (he : ∀ (s : Shared) (H : Hp) (C : Addr) (cl : List (Str × Addr)) (fp : List Addr), PE (X.blk s H scope (compEnvC scope cl C X.env) fp) vx tv)
    (hs : ∀ x, foldedSetIterable iter X.env x = pure x := by intro _; rfl) :
    PE X (.DictComp kx vx [⟨tg, iter, ifs, 0⟩] scope pos) (tDcP o wi g tt tk tv (own.map (·.2))) := by
  refine ⟨fun pins s σ H Q I h => ?_⟩
  rw [arm_eval_DictComp]
  have captured : ∀ y ∈ scope.names, y.2 = .free → ∃ c, X.env.cells.lookup y.1 = some c := fun y hy e =>
    (ok.free y hy e).elim (fun k => I.ok.has _ (.inl k)) (fun k => I.ok.has _ (.inr k))
  refine wpAny_comprehension_free rfl hs (closure_ok captured) ok.kind (fun y hy e => by rw [ok.uniq y hy, e]) (thn (hi.run pins s σ H _ I h) fun xv s1 hx => thn hx fun itv s2 h2 => ?_)
  obtain ⟨it, fp, tn, J, Ha, e, Ia, Tn, sta, fa, q⟩ := h2
  subst e
  refine wpAny_newObj_type (newEnv_comp ?_)
  generalize eD : s2.heap.objs.size = D
  have freeD : Ha D = none := Ia.hok.fresh (Nat.le_of_eq eD)
  obtain ⟨W, ⟨m0, w0⟩, turns⟩ := q D freeD
  generalize eb : ({ s2 with heap := s2.heap.push { cls := .type "dict", data := .dict #[] } } : Shared) = sb
  have Ib : Inv X pins σ (upd Ha D o) sb := by
    rw [← eb]
    refine Ia.laid (t' := s2.toks) (fun b u e => Heap.get?_push_of_some _ e) (Nat.le_of_eq eD) ?_
    rw [← eD]
    rcases ho with rfl | rfl
    · exact dk_empty s2.heap Ia.big
    · exact dt_empty s2.heap Ia.big
  have hb : sb.heap = s2.heap.push { cls := .type "dict", data := .dict #[] } := by rw [← eb]
  have low : ∀ b ∈ fp, b < s2.heap.objs.size := fun b m => let ⟨_, e, _⟩ := Tn.obj _ _ sta b m; Heap.lt_size e
  have fb : ∀ b ∈ fp, FpOk X pins (upd Ha D o) b ∧ b < sb.heap.objs.size := fun b m => by
    refine ⟨⟨?_, (fa b m).2⟩, by rw [hb, Heap.size_push]; exact Nat.lt_succ_of_lt (low b m)⟩
    rw [upd_ne (by rw [← eD]; exact Nat.ne_of_lt (low b m))]
    exact (fa b m).1
  have stb : tn 0 sb.heap := Tn.keep _ _ _ sta fun b _ u e => by rw [hb]; exact Heap.get?_push_of_some _ e
  have Ic := block_start Ib ok hN fb
  have rg := hg sb (upd Ha D o) sb.heap.objs.size (cellsFrom (sb.heap.objs.size + 1) scope.names (cloFrom X.env.cells scope.names [])) fp
  have rt := ht sb (upd Ha D o) sb.heap.objs.size (cellsFrom (sb.heap.objs.size + 1) scope.names (cloFrom X.env.cells scope.names [])) fp
  have rk := hk sb (upd Ha D o) sb.heap.objs.size (cellsFrom (sb.heap.objs.size + 1) scope.names (cloFrom X.env.cells scope.names [])) fp
  have rv := he sb (upd Ha D o) sb.heap.objs.size (cellsFrom (sb.heap.objs.size + 1) scope.names (cloFrom X.env.cells scope.names [])) fp
  have apart : ∀ b ∈ fp, (upd Ha D o) b = none := fun b m => (fb b m).1.1
  show codeAny _ _ (.compStart (.DictComp kx vx [⟨tg, iter, ifs, 0⟩] scope pos) 0 (.ref it) (.ref D) (compEnvC scope (cellsFrom (sb.heap.objs.size + 1) scope.names (cloFrom X.env.cells scope.names [])) sb.heap.objs.size X.env)) _ { sb with heap := pushCells (sb.heap.push { cls := .type "dict", data := .dict #[] }) scope.names }
  generalize ece : compEnvC scope (cellsFrom (sb.heap.objs.size + 1) scope.names (cloFrom X.env.cells scope.names [])) sb.heap.objs.size X.env = ce at Ic rg rt rk rv ⊢
  have loc : ce.locals = sb.heap.objs.size := by subst ece; rfl
  generalize eHb : upd Ha D o = Hb at Ib Ic rg rt rk rv w0 apart fb
  generalize ec : ({ sb with heap := pushCells (sb.heap.push { cls := .type "dict", data := .dict #[] }) scope.names } : Shared) = sc at Ic ⊢
  have stc : tn 0 sc.heap := Tn.keep _ _ _ stb fun b _ u e => by rw [← ec]; exact pushCells_keeps _ _ _ _ (Heap.get?_push_of_some _ e)
  have inside : ∀ {σ' : L2.St} {H' : Hp} {s' : Shared}, Inv (X.blk sb Hb scope ce fp) [] σ' H' s' → (∀ b ∈ fp, H' b = none) → ∀ b ∈ fp, FpOk (X.blk sb Hb scope ce fp) [] H' b := fun I' n b m =>
    ⟨n b m, (I'.ok.exf b m).1, I'.ok.exfs b m, .inl m, fun x c e => (I'.ok.exf b m).2 x c e, fun p hp => absurd (show p ∈ ([] : List (Addr × Obj)) ++ [] from hp) (by simp)⟩
  refine (fun loop => codeAny_compStart_dict loop (Tn.self X.A 0 _ _ _ stc loop)) ?_
  refine compLoop_anyD (fun n s' => ∃ i H', Inv (X.blk sb Hb scope ce fp) [] (wipe σ (own.map (·.2))) H' s' ∧ tn i s'.heap ∧ (∀ b ∈ fp, H' b = none) ∧ W i n H') ?_ m0 ⟨0, Hb, Ic, stc, apart, w0⟩
  rintro n sd ⟨i, Hd, Id, std, nd, wd⟩
  rcases turns i n Hd wd with ⟨stop, qq⟩ | ⟨go, Nx, later, step⟩
  · refine thnF (Tn.done (X.blk sb Hb scope ce fp) rfl rfl rfl hc i [] sd _ Hd (fun _ _ => False) Id (inside Id nd) std stop) fun r se ⟨hr, Ie⟩ => ?_
    subst hr
    have If : Inv X pins σ Hd se := Ib.call' (ch := fp) Ie.os Ie.base Ie.hok Ie.bare fun b m => ⟨(fb b m).1.2.2.2.1, (fb b m).1.2.1, (fb b m).1.2.2.2.2.1, (fb b m).1.2.2.2.2.2⟩
    have nC : Hd sb.heap.objs.size = none := by rw [← loc]; exact Ie.free
    obtain ⟨mm, hn, _⟩ := Ie.loc
    have hn : se.heap.Ns ce.locals mm := hn
    rw [loc] at hn
    refine ⟨mm, hn, fun h'' sb' => ?_⟩
    obtain ⟨f0, f1, f2, f3, f4, f5⟩ := Ib.fpOk (Nat.le_refl _) nC
    exact ⟨.ref D, Hd, If.turned (t' := se.toks) (fun b u hb' e => (sb'.2 b hb').trans e) f0 f1 f3 f4 f5, rfl, qq⟩
  · refine thnF (Tn.item (X.blk sb Hb scope ce fp) rfl rfl rfl hc i [] sd _ Hd (fun _ _ => False) Id (inside Id nd) std go) fun r se ⟨u, hr, hh⟩ => ?_
    subst hr
    refine thnF hh fun _ sf ⟨x, Hf, If, rf, yf, stf, nf⟩ => ?_
    have Ip := If.pinned (inside If nf) (Tn.obj _ _ stf)
    refine thnF (rg.run _ sf _ Hf x u _ Ip rf (step x Hf yf)) fun _ sg ⟨σg, Hg, Ig, wg, qg⟩ => ?_
    refine thnF (rt.run _ sg σg Hg _ Ig qg) fun b sh ⟨Hh, Ih, qh⟩ => ?_
    have close : ∀ {s' : Shared} {H' : Hp}, Inv (X.blk sb Hb scope ce fp) ([] ++ pinsAt fp sf.heap) σg H' s' → Nx H' → ∃ m, m < n ∧ ∃ i H', Inv (X.blk sb Hb scope ce fp) [] (wipe σ (own.map (·.2))) H' s' ∧ tn i s'.heap ∧ (∀ b ∈ fp, H' b = none) ∧ W i m H' := fun {s' H'} I' nx => by
      obtain ⟨m', less, w'⟩ := later H' nx
      have pinned : ∀ b ∈ fp, ∀ u, sf.heap.get? b = some u → s'.heap.get? b = some u ∧ H' b = none := fun b m u e =>
        let z := I'.pin (b, u) (List.mem_append_right _ (List.mem_append_right _ (mem_pinsAt m e)))
        ⟨z.1, z.2.1⟩
      refine ⟨m', less, i + 1, H', (I'.unpinned (pins := [])).weak (by rw [← wg, wipe_length]) (fun j v e => ?_), Tn.keep _ _ _ stf fun b m u e => (pinned b m u e).1, fun b m => ?_, w'⟩
      · rw [← wg] at e
        exact (wipe_some e).1
      · obtain ⟨u, e, _⟩ := Tn.obj _ _ stf b m
        exact (pinned b m u e).2
    cases b with
    | false =>
      simp only [Bool.false_eq_true, if_false] at qh ⊢
      exact close Ih qh
    | true =>
      simp only [if_true] at qh ⊢
      refine thnF (rk.run _ sh σg Hh _ Ih qh) fun z si ⟨yk, Hi, Ii, ri, qi⟩ => ?_
      refine thnF (rv.run _ si σg Hi _ Ii qi) fun z2 sj ⟨yv, Hj, Ij, rj, H6, put, nx⟩ => ?_
      exact comp_store (X := X.blk sb Hb scope ce fp) hu Ij put ri rj fun s' I' => close I' nx
end
/-! ### displays -/
section
variable {κ : Type} [DecidableEq κ]
def mergeT (kvs more : List (κ × V)) : List (κ × V) := more.foldl (fun acc kv => putK acc kv.1 kv.2) kvs
end
/-- {(..): v, ..}: the pairs made from the left, the new dict empty meanwhile -/
def tDispT (trs : List (TE × TE)) : TE := fun σ H Q => ∀ p, H p = none → tPairs trs σ (upd H p (.dT [])) fun ps H2 => H2 p = some (.dT []) ∧ ∃ kas : List (List Key × Addr × V),
  ps = kas.map (fun t => (V.ref t.2.1, t.2.2)) ∧ (∀ t ∈ kas, H2 t.2.1 = some (.tup (t.1.map kV))) ∧ kas.length ≤ 15 ∧ Q (.ref p) (upd H2 p (.dT (mergeT [] (kas.map fun t => (t.1, t.2.2)))))
theorem carriesT {P : Program} {w : World} {H : Hp} {h : Heap} (ok : HOk P w H h) : ∀ {kas : List (List Key × Addr × V)} {ws : List (Value × Value)}, (∀ t ∈ kas, H t.2.1 = some (.tup (t.1.map kV))) → VV (kas.map fun t => (V.ref t.2.1, t.2.2)) ws →
    ∃ rs : List (List Key × Addr × Value), CarriesH (tupleKind (mixKind P w)) h ws rs ∧ Paired (fun (t : List Key × Addr × V) (r : List Key × Addr × Value) => t.1 = r.1 ∧ t.2.1 = r.2.1 ∧ RelV t.2.2 r.2.2) kas rs
  | [], _, _, .nil => ⟨[], True.intro, .nil⟩
  | t :: kas, _, hk, .cons (l₂ := ws) (b := b) q r => by
    obtain ⟨rs, a, c⟩ := carriesT ok (fun t m => hk t (List.mem_cons_of_mem _ m)) r
    obtain ⟨b1, b2⟩ := b
    have e : b1 = Value.ref t.2.1 := q.1
    subst e
    exact ⟨(t.1, t.2.1, b2) :: rs, ⟨rfl, rfl, key_of ok (hk t List.mem_cons_self), a⟩, .cons ⟨rfl, rfl, q.2⟩ c⟩
theorem merge_kt {H : Hp} : ∀ {kas : List (List Key × Addr × V)} {rs : List (List Key × Addr × Value)} {kvs : List (List Key × V)} {xs : List (List Key × Addr × Value)}, (∀ t ∈ kas, H t.2.1 = some (.tup (t.1.map kV))) →
    Paired (fun (t : List Key × Addr × V) (r : List Key × Addr × Value) => t.1 = r.1 ∧ t.2.1 = r.2.1 ∧ RelV t.2.2 r.2.2) kas rs → KT H kvs xs → KT H (mergeT kvs (kas.map fun t => (t.1, t.2.2))) (storedAllH xs rs)
  | [], _, _, _, _, .nil, h => h
  | t :: kas, _, _, _, hk, .cons (b := b) (l₂ := rs') q r, h => by
    obtain ⟨b1, b2, b3⟩ := b
    obtain ⟨e1, e2, e3⟩ := q
    cases e1; cases e2
    exact merge_kt (kas := kas) (rs := rs') (fun t m => hk t (List.mem_cons_of_mem _ m)) r (h.put t.1 (hk t List.mem_cons_self) e3)
theorem mergeT_len {κ : Type} [DecidableEq κ] : ∀ (more kvs : List (κ × V)), (mergeT kvs more).length ≤ kvs.length + more.length
  | [], kvs => Nat.le_refl _
  | p :: more, kvs => by
    have a := mergeT_len more (putK kvs p.1 p.2)
    have b := length_putK kvs p.1 p.2
    show (mergeT (putK kvs p.1 p.2) more).length ≤ _
    rw [List.length_cons]
    omega
theorem ke_dispT {X : Cx} {pos : Pos} {keys : List (Option Expr)} {values : List Expr} {trs : List (TE × TE)} (hu : X.A.units < cLine) (h : PPs X pos keys values trs) (hall : keys.all (·.isSome) = true) (hl : keys.length = values.length) (h0 : keys ≠ [])
    (h15 : keys.length ≤ 15) : PE X (.Dict keys values pos) (tDispT trs) := by
  refine ⟨fun pins s σ H Q I q => ?_⟩
  have many := pairTrees_length keys values X.env pos hall hl
  have some1 : pairTrees keys values X.env pos ≠ [] := fun z => by
    rw [z] at many
    exact h0 (List.length_eq_zero_iff.mp many.symm)
  have fresh := I.hok.fresh (Nat.le_refl s.heap.objs.size)
  have I1 := I.laid (a := s.heap.objs.size) (o := .dT []) (h' := s.heap.push { cls := .type "dict", data := .dict #[] }) (t' := s.toks) (fun _ _ z => Heap.get?_push_of_some _ z) (Nat.le_refl _) (dt_empty s.heap I.big)
  rw [arm_eval_Dict, zip_pairTrees keys values X.env pos hall hl, dictDisplay_pairs (pairTrees keys values X.env pos) some1 (by rw [many]; omega)]
  refine wpAny_bind (wpAny_standAt (wpAny_bind (wpAny_subDictH (knd := tupleKind (mixKind X.prog X.w)) (Q := fun d s' => wpAny (model X.prog X.w) X.A (pure (Value.ref d)) _ _ s') hu (by rw [many]; exact h15) ?_)))
  refine thn (h.run pins _ σ _ _ I1 (q _ fresh)) fun ws s2 ⟨ps, H2, I2, rel, e, kas, ep, hk, lk, q2⟩ => ?_
  subst ep
  obtain ⟨rs, c, rk⟩ := carriesT I2.hok hk rel
  obtain ⟨z, hd, xs0, r0, dd⟩ := dt_of I2.hok e
  cases r0
  refine ⟨rs, c, dd, fun h' tk dd' hs => wpAny_pure ⟨.ref s.heap.objs.size, _, ?_, rfl, q2⟩⟩
  have lz : (mergeT [] (kas.map fun t => (t.1, t.2.2))).length ≤ sizeLine := by
    have a := mergeT_len (kas.map fun t => (t.1, t.2.2)) []
    rw [List.length_map, List.length_nil] at a
    rw [sizeLine_eq]; omega
  obtain ⟨o, es, epo, a1, a2, a3, a4, _, a6⟩ := dd'
  refine d_write I2 (by rw [e]; exact True.intro) hs ⟨o, a1⟩ ⟨lz, hd, _, (merge_kt hk rk .nil).keeps fun b ys eb => ?_, o, es, epo, a1, a2, a3, a4, a6⟩
  rw [upd_ne (ne_of eb e (fun z => nomatch z))]
  exact eb
end Fm
/-! the text by places, and what the top leaves of it -/
namespace Fm
open PySem L2
def top (i : Nat) : Stmt := PySem.Challenge.pw_fewmends_k78_whole_floors.main.body.getD i (.Pass ⟨0, 0, 0, 0⟩)
abbrev s_is_whole : Stmt := top 2
abbrev N_is_whole : List Str := ["thing"]
abbrev P_is_whole : List Str := ["thing"]
theorem sc_is_whole : FnScope N_is_whole P_is_whole (defScope s_is_whole) := ⟨rfl, rfl, rfl, by decide +kernel, rfl, by decide +kernel, by decide +kernel⟩
abbrev s_steps_by_state : Stmt := top 4
abbrev N_steps_by_state : List Str := ["machine", "rows", "begin", "letter", "to", "_"]
abbrev P_steps_by_state : List Str := ["machine"]
theorem sc_steps_by_state : FnScope N_steps_by_state P_steps_by_state (defScope s_steps_by_state) := ⟨rfl, rfl, rfl, by decide +kernel, rfl, by decide +kernel, by decide +kernel⟩
abbrev s_states_behind : Stmt := top 5
abbrev N_states_behind : List Str := ["rows", "states", "letter", "found", "state", "sign", "to"]
abbrev P_states_behind : List Str := ["rows", "states", "letter"]
theorem sc_states_behind : FnScope N_states_behind P_states_behind (defScope s_states_behind) := ⟨rfl, rfl, rfl, by decide +kernel, rfl, by decide +kernel, by decide +kernel⟩
abbrev s_states_along : Stmt := top 6
abbrev N_states_along : List Str := ["rows", "states", "text", "letter"]
abbrev P_states_along : List Str := ["rows", "states", "text"]
theorem sc_states_along : FnScope N_states_along P_states_along (defScope s_states_along) := ⟨rfl, rfl, rfl, by decide +kernel, rfl, by decide +kernel, by decide +kernel⟩
abbrev s_rests_of : Stmt := top 8
abbrev N_rests_of : List Str := ["book", "found", "read", "_", "at"]
abbrev P_rests_of : List Str := ["book"]
theorem sc_rests_of : FnScope N_rests_of P_rests_of (defScope s_rests_of) := ⟨rfl, rfl, rfl, by decide +kernel, rfl, by decide +kernel, by decide +kernel⟩
abbrev s_MoveWeb_init : Stmt := inClass (top 9) 0
abbrev N_MoveWeb_init : List Str := ["self", "book", "machine", "rests", "state", "rest", "home", "standing", "_", "letter"]
abbrev P_MoveWeb_init : List Str := ["self", "book", "machine"]
theorem sc_MoveWeb_init : FnScope N_MoveWeb_init P_MoveWeb_init (defScope s_MoveWeb_init) := ⟨rfl, rfl, rfl, by decide +kernel, rfl, by decide +kernel, by decide +kernel⟩
abbrev s_MoveWeb_put_moves : Stmt := inClass (top 9) 1
abbrev N_MoveWeb_put_moves : List Str := ["self", "rows", "home", "state", "rest", "letter", "to"]
abbrev P_MoveWeb_put_moves : List Str := ["self", "rows"]
theorem sc_MoveWeb_put_moves : FnScope N_MoveWeb_put_moves P_MoveWeb_put_moves (defScope s_MoveWeb_put_moves) := ⟨rfl, rfl, rfl, by decide +kernel, rfl, by decide +kernel, by decide +kernel⟩
abbrev s_MoveWeb_put_edits : Stmt := inClass (top 9) 2
abbrev N_MoveWeb_put_edits : List Str := ["self", "rows", "home", "state", "read", "write", "cost", "to"]
abbrev P_MoveWeb_put_edits : List Str := ["self", "rows", "home", "state"]
theorem sc_MoveWeb_put_edits : FnScope N_MoveWeb_put_edits P_MoveWeb_put_edits (defScope s_MoveWeb_put_edits) := ⟨rfl, rfl, rfl, by decide +kernel, rfl, by decide +kernel, by decide +kernel⟩
abbrev s_MoveWeb_is_end : Stmt := inClass (top 9) 3
abbrev N_MoveWeb_is_end : List Str := ["self", "home", "state", "rest"]
abbrev P_MoveWeb_is_end : List Str := ["self", "home"]
theorem sc_MoveWeb_is_end : FnScope N_MoveWeb_is_end P_MoveWeb_is_end (defScope s_MoveWeb_is_end) := ⟨rfl, rfl, rfl, by decide +kernel, rfl, by decide +kernel, by decide +kernel⟩
abbrev s_MoveWeb_ends : Stmt := inClass (top 9) 4
abbrev N_MoveWeb_ends : List Str := ["self", "home"]
abbrev P_MoveWeb_ends : List Str := ["self"]
theorem sc_MoveWeb_ends : FnScope N_MoveWeb_ends P_MoveWeb_ends (defScope s_MoveWeb_ends) := ⟨rfl, rfl, rfl, by decide +kernel, rfl, by decide +kernel, by decide +kernel⟩
abbrev s_MoveWeb_closed : Stmt := inClass (top 9) 5
abbrev N_MoveWeb_closed : List Str := ["self", "row", "told", "fresh", "further", "home", "to", "cost", "_"]
abbrev P_MoveWeb_closed : List Str := ["self", "row"]
theorem sc_MoveWeb_closed : FnScope N_MoveWeb_closed P_MoveWeb_closed (defScope s_MoveWeb_closed) := ⟨rfl, rfl, rfl, by decide +kernel, rfl, by decide +kernel, by decide +kernel⟩
abbrev s_MoveWeb_begun : Stmt := inClass (top 9) 6
abbrev N_MoveWeb_begun : List Str := ["self", "row"]
abbrev P_MoveWeb_begun : List Str := ["self"]
theorem sc_MoveWeb_begun : FnScope N_MoveWeb_begun P_MoveWeb_begun (defScope s_MoveWeb_begun) := ⟨rfl, rfl, rfl, by decide +kernel, rfl, by decide +kernel, by decide +kernel⟩
abbrev s_MoveWeb_behind : Stmt := inClass (top 9) 7
abbrev N_MoveWeb_behind : List Str := ["self", "row", "letter", "told", "home", "cost", "to", "more", "_"]
abbrev P_MoveWeb_behind : List Str := ["self", "row", "letter"]
theorem sc_MoveWeb_behind : FnScope N_MoveWeb_behind P_MoveWeb_behind (defScope s_MoveWeb_behind) := ⟨rfl, rfl, rfl, by decide +kernel, rfl, by decide +kernel, by decide +kernel⟩
abbrev s_MoveWeb_least_end : Stmt := inClass (top 9) 9
abbrev N_MoveWeb_least_end : List Str := ["self", "row", "home"]
abbrev P_MoveWeb_least_end : List Str := ["self", "row"]
theorem sc_MoveWeb_least_end : FnScope N_MoveWeb_least_end P_MoveWeb_least_end (defScope s_MoveWeb_least_end) := ⟨rfl, rfl, rfl, by decide +kernel, rfl, by decide +kernel, by decide +kernel⟩
abbrev s_least_of : Stmt := top 10
abbrev N_least_of : List Str := ["numbers", "told", "number"]
abbrev P_least_of : List Str := ["numbers"]
theorem sc_least_of : FnScope N_least_of P_least_of (defScope s_least_of) := ⟨rfl, rfl, rfl, by decide +kernel, rfl, by decide +kernel, by decide +kernel⟩
abbrev s_floor_paper : Stmt := top 12
abbrev N_floor_paper : List Str := ["book", "machine", "text", "web", "rows", "letter", "cost", "most", "row", "number"]
abbrev P_floor_paper : List Str := ["book", "machine", "text"]
theorem sc_floor_paper : FnScope N_floor_paper P_floor_paper (defScope s_floor_paper) := ⟨rfl, rfl, rfl, by decide +kernel, rfl, by decide +kernel, by decide +kernel⟩
abbrev s_are_floor_rows : Stmt := top 13
abbrev N_are_floor_rows : List Str := ["many", "length", "thing", "row", "number"]
abbrev P_are_floor_rows : List Str := ["many", "length", "thing"]
theorem sc_are_floor_rows : FnScope N_are_floor_rows P_are_floor_rows (defScope s_are_floor_rows) := ⟨rfl, rfl, rfl, by decide +kernel, rfl, by decide +kernel, by decide +kernel⟩
abbrev s_keeps_moves : Stmt := top 14
abbrev N_keeps_moves : List Str := ["moves", "row", "after", "home", "told", "to", "cost", "_"]
abbrev P_keeps_moves : List Str := ["moves", "row", "after"]
theorem sc_keeps_moves : FnScope N_keeps_moves P_keeps_moves (defScope s_keeps_moves) := ⟨rfl, rfl, rfl, by decide +kernel, rfl, by decide +kernel, by decide +kernel⟩
abbrev s_is_floor : Stmt := top 15
abbrev N_is_floor : List Str := ["book", "machine", "text", "number", "thing", "web", "place", "row", "home"]
abbrev P_is_floor : List Str := ["book", "machine", "text", "number", "thing"]
theorem sc_is_floor : FnScope N_is_floor P_is_floor (defScope s_is_floor) := ⟨rfl, rfl, rfl, by decide +kernel, rfl, by decide +kernel, by decide +kernel⟩
abbrev s_law_pool : Stmt := top 17
abbrev N_law_pool : List Str := ["script", "most", "state", "great", "cell"]
abbrev P_law_pool : List Str := ["script"]
theorem sc_law_pool : FnScope N_law_pool P_law_pool (defScope s_law_pool) := ⟨rfl, rfl, rfl, by decide +kernel, rfl, by decide +kernel, by decide +kernel⟩
abbrev s_law_draw : Stmt := top 18
abbrev N_law_draw : List Str := ["pool", "many", "great", "cell", "state"]
abbrev P_law_draw : List Str := ["pool", "many"]
theorem sc_law_draw : FnScope N_law_draw P_law_draw (defScope s_law_draw) := ⟨rfl, rfl, rfl, by decide +kernel, rfl, by decide +kernel, by decide +kernel⟩
abbrev s_law_letters : Stmt := top 19
abbrev N_law_letters : List Str := ["pool", "most", "left", "found", "k"]
abbrev P_law_letters : List Str := ["pool", "most"]
theorem sc_law_letters : FnScope N_law_letters P_law_letters (defScope s_law_letters) := ⟨rfl, rfl, rfl, by decide +kernel, rfl, by decide +kernel, by decide +kernel⟩
abbrev s_law_text : Stmt := top 20
abbrev N_law_text : List Str := ["pool", "letters", "most", "text", "k"]
abbrev P_law_text : List Str := ["pool", "letters", "most"]
theorem sc_law_text : FnScope N_law_text P_law_text (defScope s_law_text) := ⟨rfl, rfl, rfl, by decide +kernel, rfl, by decide +kernel, by decide +kernel⟩
abbrev s_law_book : Stmt := top 21
abbrev N_law_book : List Str := ["pool", "letters", "most", "found", "dear", "x", "y", "k", "read", "write", "key"]
abbrev P_law_book : List Str := ["pool", "letters", "most"]
theorem sc_law_book : FnScope N_law_book P_law_book (defScope s_law_book) := ⟨rfl, rfl, rfl, by decide +kernel, rfl, by decide +kernel, by decide +kernel⟩
abbrev s_law_machine : Stmt := top 22
abbrev N_law_machine : List Str := ["pool", "letters", "most", "states", "steps", "k", "ends", "q"]
abbrev P_law_machine : List Str := ["pool", "letters", "most"]
theorem sc_law_machine : FnScope N_law_machine P_law_machine (defScope s_law_machine) := ⟨rfl, rfl, rfl, by decide +kernel, rfl, by decide +kernel, by decide +kernel⟩
abbrev s_law_house : Stmt := top 23
abbrev N_law_house : List Str := ["pool", "a", "b", "kind", "rows", "states", "ends", "steps", "numbers", "left", "moved", "p", "x", "q"]
abbrev P_law_house : List Str := ["pool", "a", "b"]
theorem sc_law_house : FnScope N_law_house P_law_house (defScope s_law_house) := ⟨rfl, rfl, rfl, by decide +kernel, rfl, by decide +kernel, by decide +kernel⟩
abbrev s_law_full : Stmt := top 24
abbrev N_law_full : List Str := ["pool", "a", "b", "c", "d", "found", "read", "write", "key"]
abbrev P_law_full : List Str := ["pool", "a", "b"]
theorem sc_law_full : FnScope N_law_full P_law_full (defScope s_law_full) := ⟨rfl, rfl, rfl, by decide +kernel, rfl, by decide +kernel, by decide +kernel⟩
abbrev s_law_pair : Stmt := top 25
abbrev N_law_pair : List Str := ["pool", "first", "other"]
abbrev P_law_pair : List Str := ["pool"]
theorem sc_law_pair : FnScope N_law_pair P_law_pair (defScope s_law_pair) := ⟨rfl, rfl, rfl, by decide +kernel, rfl, by decide +kernel, by decide +kernel⟩
abbrev s_law_standings : Stmt := top 26
abbrev N_law_standings : List Str := ["book", "machine", "rests", "read", "write", "cost", "found", "q", "rest"]
abbrev P_law_standings : List Str := ["book", "machine"]
theorem sc_law_standings : FnScope N_law_standings P_law_standings (defScope s_law_standings) := ⟨rfl, rfl, rfl, by decide +kernel, rfl, by decide +kernel, by decide +kernel⟩
abbrev s_law_moves : Stmt := top 27
abbrev N_law_moves : List Str := ["book", "machine", "states", "ends", "steps", "standings", "number", "k", "found", "q", "rest", "here", "read", "write", "cost", "heads", "x", "o", "p", "y"]
abbrev P_law_moves : List Str := ["book", "machine"]
theorem sc_law_moves : FnScope N_law_moves P_law_moves (defScope s_law_moves) := ⟨rfl, rfl, rfl, by decide +kernel, rfl, by decide +kernel, by decide +kernel⟩
abbrev s_law_least : Stmt := top 28
abbrev N_law_least : List Str := ["moves", "many", "text", "rows", "row", "place", "again", "one", "letter", "cost", "other", "after"]
abbrev P_law_least : List Str := ["moves", "many", "text"]
theorem sc_law_least : FnScope N_law_least P_law_least (defScope s_law_least) := ⟨rfl, rfl, rfl, by decide +kernel, rfl, by decide +kernel, by decide +kernel⟩
abbrev s_law_integer : Stmt := top 29
abbrev N_law_integer : List Str := ["thing"]
abbrev P_law_integer : List Str := ["thing"]
theorem sc_law_integer : FnScope N_law_integer P_law_integer (defScope s_law_integer) := ⟨rfl, rfl, rfl, by decide +kernel, rfl, by decide +kernel, by decide +kernel⟩
abbrev s_law_is_floor : Stmt := top 30
abbrev N_law_is_floor : List Str := ["web", "ends", "text", "number", "thing", "standings", "moves", "row", "cell", "place", "one", "letter", "cost", "other", "k"]
abbrev P_law_is_floor : List Str := ["web", "ends", "text", "number", "thing"]
theorem sc_law_is_floor : FnScope N_law_is_floor P_law_is_floor (defScope s_law_is_floor) := ⟨rfl, rfl, rfl, by decide +kernel, rfl, by decide +kernel, by decide +kernel⟩
abbrev s_law_own_floors : Stmt := top 31
abbrev N_law_own_floors : List Str := ["pool", "rows", "far", "most", "row", "great", "plain", "cap", "place", "less", "capped", "halved", "lowered", "cell"]
abbrev P_law_own_floors : List Str := ["pool", "rows", "far"]
theorem sc_law_own_floors : FnScope N_law_own_floors P_law_own_floors (defScope s_law_own_floors) := ⟨rfl, rfl, rfl, by decide +kernel, rfl, by decide +kernel, by decide +kernel⟩
abbrev s_law_bent : Stmt := top 32
abbrev N_law_bent : List Str := ["pool", "floor", "place", "at", "cell", "rows", "other"]
abbrev P_law_bent : List Str := ["pool", "floor"]
theorem sc_law_bent : FnScope N_law_bent P_law_bent (defScope s_law_bent) := ⟨rfl, rfl, rfl, by decide +kernel, rfl, by decide +kernel, by decide +kernel⟩
abbrev s_law_asked : Stmt := top 33
abbrev N_law_asked : List Str := ["pool", "book", "machine", "text", "many", "web", "standings", "moves", "rows", "ends", "costs", "told", "far", "floor", "low", "best", "bent", "first", "thing", "number", "said", "k", "cost"]
abbrev P_law_asked : List Str := ["pool", "book", "machine", "text", "many"]
theorem sc_law_asked : FnScope N_law_asked P_law_asked (defScope s_law_asked) := ⟨rfl, rfl, rfl, by decide +kernel, rfl, by decide +kernel, by decide +kernel⟩
abbrev s_law : Stmt := top 34
abbrev N_law : List Str := ["script", "pool", "lap", "a", "b", "letters", "states", "ends", "steps", "text", "most"]
abbrev P_law : List Str := ["script"]
theorem sc_law : FnScope N_law P_law (defScope s_law) := ⟨rfl, rfl, rfl, by decide +kernel, rfl, by decide +kernel, by decide +kernel⟩
structure Txt (K : PySem.W.Frag) (g : Str → Option Value) where
  z_len : g "len" = none
  z_range : g "range" = none
  z_enumerate : g "enumerate" = none
  z_list : g "list" = none
  z_tuple : g "tuple" = none
  z_sorted : g "sorted" = none
  z_min : g "min" = none
  z_max : g "max" = none
  z_set : g "set" = none
  z_int : g "int" = none
  z_str : g "str" = none
  z_isinstance : g "isinstance" = none
  z_bool : g "bool" = none
  c_MoveWeb : Addr
  cl_MoveWeb : Cls K c_MoveWeb
  mg_MoveWeb : g "MoveWeb" = some (.ref c_MoveWeb)
  na_MoveWeb_book : NoAttr K c_MoveWeb "book"
  na_MoveWeb_machine : NoAttr K c_MoveWeb "machine"
  na_MoveWeb_standings : NoAttr K c_MoveWeb "standings"
  na_MoveWeb_homes : NoAttr K c_MoveWeb "homes"
  na_MoveWeb_silent : NoAttr K c_MoveWeb "silent"
  na_MoveWeb_reading : NoAttr K c_MoveWeb "reading"
  d_is_whole : Def K g "is_whole" "is_whole" s_is_whole P_is_whole
  d_steps_by_state : Def K g "steps_by_state" "steps_by_state" s_steps_by_state P_steps_by_state
  d_states_behind : Def K g "states_behind" "states_behind" s_states_behind P_states_behind
  d_states_along : Def K g "states_along" "states_along" s_states_along P_states_along
  d_rests_of : Def K g "rests_of" "rests_of" s_rests_of P_rests_of
  d_MoveWeb_init : DefM K c_MoveWeb "__init__" "MoveWeb.__init__" s_MoveWeb_init P_MoveWeb_init
  mk_MoveWeb : Mk K c_MoveWeb d_MoveWeb_init.f
  d_MoveWeb_put_moves : DefM K c_MoveWeb "put_moves" "MoveWeb.put_moves" s_MoveWeb_put_moves P_MoveWeb_put_moves
  d_MoveWeb_put_edits : DefM K c_MoveWeb "put_edits" "MoveWeb.put_edits" s_MoveWeb_put_edits P_MoveWeb_put_edits
  d_MoveWeb_is_end : DefM K c_MoveWeb "is_end" "MoveWeb.is_end" s_MoveWeb_is_end P_MoveWeb_is_end
  d_MoveWeb_ends : DefM K c_MoveWeb "ends" "MoveWeb.ends" s_MoveWeb_ends P_MoveWeb_ends
  d_MoveWeb_closed : DefM K c_MoveWeb "closed" "MoveWeb.closed" s_MoveWeb_closed P_MoveWeb_closed
  d_MoveWeb_begun : DefM K c_MoveWeb "begun" "MoveWeb.begun" s_MoveWeb_begun P_MoveWeb_begun
  d_MoveWeb_behind : DefM K c_MoveWeb "behind" "MoveWeb.behind" s_MoveWeb_behind P_MoveWeb_behind
  d_MoveWeb_least_end : DefM K c_MoveWeb "least_end" "MoveWeb.least_end" s_MoveWeb_least_end P_MoveWeb_least_end
  d_least_of : Def K g "least_of" "least_of" s_least_of P_least_of
  d_floor_paper : Def K g "floor_paper" "floor_paper" s_floor_paper P_floor_paper
  d_are_floor_rows : Def K g "are_floor_rows" "are_floor_rows" s_are_floor_rows P_are_floor_rows
  d_keeps_moves : Def K g "keeps_moves" "keeps_moves" s_keeps_moves P_keeps_moves
  d_is_floor : Def K g "is_floor" "is_floor" s_is_floor P_is_floor
  d_law_pool : Def K g "_law_pool" "_law_pool" s_law_pool P_law_pool
  d_law_draw : Def K g "_law_draw" "_law_draw" s_law_draw P_law_draw
  d_law_letters : Def K g "_law_letters" "_law_letters" s_law_letters P_law_letters
  d_law_text : Def K g "_law_text" "_law_text" s_law_text P_law_text
  d_law_book : Def K g "_law_book" "_law_book" s_law_book P_law_book
  d_law_machine : Def K g "_law_machine" "_law_machine" s_law_machine P_law_machine
  d_law_house : Def K g "_law_house" "_law_house" s_law_house P_law_house
  d_law_full : Def K g "_law_full" "_law_full" s_law_full P_law_full
  d_law_pair : Def K g "_law_pair" "_law_pair" s_law_pair P_law_pair
  d_law_standings : Def K g "_law_standings" "_law_standings" s_law_standings P_law_standings
  d_law_moves : Def K g "_law_moves" "_law_moves" s_law_moves P_law_moves
  d_law_least : Def K g "_law_least" "_law_least" s_law_least P_law_least
  d_law_integer : Def K g "_law_integer" "_law_integer" s_law_integer P_law_integer
  d_law_is_floor : Def K g "_law_is_floor" "_law_is_floor" s_law_is_floor P_law_is_floor
  d_law_own_floors : Def K g "_law_own_floors" "_law_own_floors" s_law_own_floors P_law_own_floors
  d_law_bent : Def K g "_law_bent" "_law_bent" s_law_bent P_law_bent
  d_law_asked : Def K g "_law_asked" "_law_asked" s_law_asked P_law_asked
  d_law : Def K g "law" "law" s_law P_law

end Fm
namespace Fm
open PySem L2
/-- nodes to which moves lead -/
inductive Rch {α : Type} (web : List (List (α × Nat))) (bs : List Nat) : Nat → Prop
  | beg {b : Nat} : b ∈ bs → Rch web bs b
  | step {n t : Nat} {l : α} {row : List (α × Nat)} : Rch web bs n → web[n]? = some row → (l, t) ∈ row → Rch web bs t
structure NF {α : Type} (web : List (List (α × Nat))) (bs : List Nat) (fl : List Bool) (q : List Nat) : Prop where
  len : fl.length = web.length
  mem : ∀ n, fl[n]? = some true ↔ n ∈ q
  cnt : q.length + fl.count false = fl.length
  rch : ∀ n ∈ q, Rch web bs n
theorem count_set : ∀ (fl : List Bool) (t : Nat), fl[t]? = some false → (fl.set t true).count false + 1 = fl.count false
  | [], t, h => by cases t <;> cases h
  | b :: fl, 0, h => by
    cases h
    rw [List.set_cons_zero, List.count_cons, List.count_cons]
    simp
  | b :: fl, t + 1, h => by
    rw [List.set_cons_succ, List.count_cons, List.count_cons]
    have := count_set fl t h
    omega
theorem NF.put {α : Type} {web : List (List (α × Nat))} {bs : List Nat} {fl : List Bool} {q : List Nat} (N : NF web bs fl q) {t : Nat} (h : fl[t]? = some false) (r : Rch web bs t) : NF web bs (fl.set t true) (q ++ [t]) where
  len := by rw [List.length_set]; exact N.len
  mem := fun n => by
    have ht : t < fl.length := (List.getElem?_eq_some_iff.mp h).1
    rw [List.getElem?_set, List.mem_append, List.mem_singleton]
    by_cases e : t = n
    · subst e; simp [ht]
    · rw [if_neg e, N.mem n]
      exact ⟨.inl, fun z => z.elim id fun z => absurd z.symm e⟩
  cnt := by
    have := count_set fl t h
    have := N.cnt
    rw [List.length_append, List.length_set, List.length_singleton]
    omega
  rch := fun n hn => by
    rcases List.mem_append.mp hn with z | z
    · exact N.rch n z
    · rw [List.mem_singleton.mp z]; exact r
theorem NF.start {α : Type} (web : List (List (α × Nat))) (bs : List Nat) : NF web bs (List.replicate web.length false) [] where
  len := List.length_replicate
  mem := fun n => by
    rw [List.getElem?_replicate]
    split <;> simp
  cnt := by simp
  rch := fun n hn => nomatch hn
/-- all successors of the first k of q are in q -/
def Done {α : Type} (web : List (List (α × Nat))) (q : List Nat) (k : Nat) : Prop := ∀ i n row l t, i < k → q[i]? = some n → web[n]? = some row → (l, t) ∈ row → t ∈ q
def spNodesFrom : Sp := fun vs H Q _ => ∃ (α : Type) (r : Rp α) (_ : Me r) (web : List (List (α × Nat))) (bs : List Nat) (v1 v2 : V), vs = [v1, v2] ∧ rL (rL (rP r rN)) H v1 web ∧ rL rN H v2 bs ∧
  (∀ row ∈ web, ∀ p ∈ row, p.2 < web.length) ∧ (∀ b ∈ bs, b < web.length) ∧ web.length ≤ 100000 ∧
  ∀ (p : Addr) (H' : Hp) (fl : List Bool), Fe H H' → H p = none → H' p = some (.lst (fl.map V.bl)) → fl.length = web.length → (∀ n, fl[n]? = some true ↔ Rch web bs n) → Q (.ref p) H'
section
variable {P : Program} {w : World} {K : PySem.W.Frag} {g : Str → Option Value} {base : Heap}
end
end Fm
namespace Fm
open PySem L2
/-! ### turned_web -/
abbrev Ed {α : Type} (web : List (List (α × Nat))) (n : Nat) (l : α) (t : Nat) : Prop := ∃ row, web[n]? = some row ∧ (l, t) ∈ row
structure TW {α : Type} (web rows : List (List (α × Nat))) (S : Nat → α → Nat → Prop) : Prop where
  len : rows.length = web.length
  eds : ∀ t l n, Ed rows t l n ↔ (t < web.length ∧ S n l t)
theorem TW.put {α : Type} {web rows : List (List (α × Nat))} {S : Nat → α → Nat → Prop} (T : TW web rows S) {t0 n0 : Nat} {l0 : α} {row : List (α × Nat)} (h : rows[t0]? = some row) :
    TW web (rows.set t0 (row ++ [(l0, n0)])) (fun n l t => S n l t ∨ (n = n0 ∧ l = l0 ∧ t = t0)) where
  len := by rw [List.length_set]; exact T.len
  eds := fun t l n => by
    have ht := (List.getElem?_eq_some_iff.mp h).1
    have := T.eds t l n
    constructor
    · rintro ⟨row', h1, h2⟩
      rw [List.getElem?_set] at h1
      by_cases e : t0 = t
      · subst e
        rw [if_pos rfl, if_pos ht] at h1
        cases h1
        rw [List.mem_append, List.mem_singleton] at h2
        rcases h2 with h2 | h2
        · have := this.mp ⟨row, h, h2⟩
          exact ⟨this.1, .inl this.2⟩
        · cases h2
          exact ⟨by rw [← T.len]; exact ht, .inr ⟨rfl, rfl, rfl⟩⟩
      · rw [if_neg e] at h1
        have := this.mp ⟨row', h1, h2⟩
        exact ⟨this.1, .inl this.2⟩
    · rintro ⟨hl, h2 | ⟨rfl, rfl, rfl⟩⟩
      · obtain ⟨row', h1, h3⟩ := this.mpr ⟨hl, h2⟩
        by_cases e : t0 = t
        · subst e
          rw [h] at h1; cases h1
          exact ⟨_, by rw [List.getElem?_set, if_pos rfl, if_pos ht], List.mem_append_left _ h3⟩
        · exact ⟨row', by rw [List.getElem?_set, if_neg e]; exact h1, h3⟩
      · exact ⟨_, by rw [List.getElem?_set, if_pos rfl, if_pos ht], List.mem_append_right _ (List.mem_singleton.mpr rfl)⟩
theorem TW.imp {α : Type} {web rows : List (List (α × Nat))} {S S' : Nat → α → Nat → Prop} (T : TW web rows S) (h : ∀ n l t, t < web.length → (S n l t ↔ S' n l t)) : TW web rows S' :=
  ⟨T.len, fun t l n => by rw [T.eds t l n]; exact ⟨fun ⟨a, b⟩ => ⟨a, (h n l t a).mp b⟩, fun ⟨a, b⟩ => ⟨a, (h n l t a).mpr b⟩⟩⟩
theorem TW.start {α : Type} (web : List (List (α × Nat))) : TW web (List.replicate web.length []) (fun _ _ _ => False) :=
  ⟨List.length_replicate, fun t l n => by
    constructor
    · rintro ⟨row, h1, h2⟩
      rw [List.getElem?_replicate] at h1
      split at h1
      · cases h1; exact nomatch h2
      · cases h1
    · exact fun h => h.2.elim⟩
/-- a web whose moves go the other way round -/
def Turned {α : Type} (web rows : List (List (α × Nat))) : Prop := rows.length = web.length ∧ ∀ t l n, Ed rows t l n ↔ (t < web.length ∧ Ed web n l t)
def spTurnedWeb : Sp := fun vs H Q _ => ∃ (α : Type) (r : Rp α) (_ : Mo r) (web : List (List (α × Nat))) (v1 : V), vs = [v1] ∧ rL (rL (rP r rN)) H v1 web ∧
  (∀ row ∈ web, ∀ p ∈ row, p.2 < web.length) ∧ web.length ≤ 100000 ∧ (∀ row ∈ web, row.length ≤ 100) ∧
  ∀ (v : V) (H' : Hp) (rows : List (List (α × Nat))), Fe H H' → rL (rL (rP r rN)) H' v rows → Turned web rows → Q v H'
/-- the rows' sizes -/
theorem row_size {α : Type} {web rows : List (List (α × Nat))} : True := trivial
section
variable {P : Program} {w : World} {K : PySem.W.Frag} {g : Str → Option Value} {base : Heap}
end
end Fm
namespace Fm
open PySem L2
/-! ### live states -/
/-- nodes from which moves lead to ends -/
inductive Bch {α : Type} (web : List (List (α × Nat))) (es : List Nat) : Nat → Prop
  | fin {n : Nat} : n ∈ es → Bch web es n
  | step {n t : Nat} {l : α} : Ed web n l t → Bch web es t → Bch web es n
theorem rch_turned {α : Type} {web rows : List (List (α × Nat))} {es : List Nat} (T : Turned web rows) (hb : ∀ row ∈ web, ∀ p ∈ row, p.2 < web.length) (n : Nat) : Rch rows es n ↔ Bch web es n := by
  constructor
  · intro h
    induction h with
    | beg h => exact .fin h
    | @step n t l row _ hw hm ih => exact .step ((T.2 n l t).mp ⟨row, hw, hm⟩).2 ih
  · intro h
    induction h with
    | fin h => exact .beg h
    | @step n t l hE _ ih =>
      obtain ⟨row, h1, h2⟩ := hE
      obtain ⟨row', h3, h4⟩ := (T.2 t l n).mpr ⟨hb row (List.mem_of_getElem? h1) _ h2, row, h1, h2⟩
      exact .step ih h3 h4
def spNodesBetween : Sp := fun vs H Q _ => ∃ (α : Type) (r : Rp α) (_ : Mo r) (web : List (List (α × Nat))) (bs es : List Nat) (v1 v2 v3 : V), vs = [v1, v2, v3] ∧ rL (rL (rP r rN)) H v1 web ∧ rL rN H v2 bs ∧ rL rN H v3 es ∧
  (∀ row ∈ web, ∀ p ∈ row, p.2 < web.length) ∧ (∀ b ∈ bs, b < web.length) ∧ (∀ b ∈ es, b < web.length) ∧ web.length ≤ 100000 ∧ (∀ row ∈ web, row.length ≤ 100) ∧
  ∀ (v : V) (H' : Hp) (fl : List Bool), Fe H H' → rL rB H' v fl → fl.length = web.length → (∀ n, fl[n]? = some true ↔ (Rch web bs n ∧ Bch web es n)) → Q v H'
section
variable {P : Program} {w : World} {K : PySem.W.Frag} {g : Str → Option Value} {base : Heap}
/-! ### steps_by_state -/
abbrev rC : Rp Nat := fun _ v c => v = .str ⟨#[c]⟩
instance : Mo rC := ⟨fun _ h => h⟩
/-- states, ends, steps (from, letter, to) -/
abbrev Mach := Nat × List Nat × List (Nat × Nat × Nat)
abbrev rMach : Rp Mach := rP3 rN (rT rN) (rT (rP3 rN rC rN))
structure MOk (m : Mach) : Prop where
  pos : 0 < m.1
  few : m.1 ≤ 1000
  ends : ∀ q ∈ m.2.1, q < m.1
  st : ∀ s ∈ m.2.2, s.1 < m.1 ∧ s.2.2 < m.1
  fewS : m.2.2.length ≤ 100
def stepRows (n : Nat) (steps : List (Nat × Nat × Nat)) : List (List (Nat × Nat)) := (List.range n).map fun q => (steps.filter fun s => s.1 == q).map (·.2)
theorem stepRows_at {n : Nat} {steps : List (Nat × Nat × Nat)} {q : Nat} (h : q < n) : (stepRows n steps)[q]? = some ((steps.filter fun s => s.1 == q).map (·.2)) := by
  unfold stepRows
  rw [List.getElem?_map, List.getElem?_range h]
  rfl
theorem stepRows_len (n : Nat) (steps : List (Nat × Nat × Nat)) : (stepRows n steps).length = n := by
  unfold stepRows
  rw [List.length_map, List.length_range]
theorem stepRows_ed {n : Nat} {steps : List (Nat × Nat × Nat)} {q c t : Nat} (h : q < n) : Ed (stepRows n steps) q c t ↔ (q, c, t) ∈ steps := by
  constructor
  · rintro ⟨row, h1, h2⟩
    rw [stepRows_at h] at h1; cases h1
    obtain ⟨s, h3, h4⟩ := List.mem_map.mp h2
    obtain ⟨h5, h6⟩ := List.mem_filter.mp h3
    have : s.1 = q := by simpa using h6
    obtain ⟨a, b⟩ := s
    subst this
    cases h4
    exact h5
  · intro hm
    exact ⟨_, stepRows_at h, List.mem_map.mpr ⟨(q, c, t), List.mem_filter.mpr ⟨hm, by simp⟩, rfl⟩⟩
theorem stepRows_put {n : Nat} {steps : List (Nat × Nat × Nat)} {s : Nat × Nat × Nat} (h : s.1 < n) : (stepRows n steps).set s.1 ((steps.filter fun u => u.1 == s.1).map (·.2) ++ [s.2]) = stepRows n (steps ++ [s]) := by
  apply List.ext_getElem?
  intro i
  rw [List.getElem?_set]
  by_cases e : s.1 = i
  · subst e
    rw [if_pos rfl, stepRows_len, if_pos h, stepRows_at h, List.filter_append, List.map_append]
    simp
  · rw [if_neg e]
    by_cases hi : i < n
    · rw [stepRows_at hi, stepRows_at hi, List.filter_append, List.map_append]
      simp [e]
    · rw [List.getElem?_eq_none (by rw [stepRows_len]; omega), List.getElem?_eq_none (by rw [stepRows_len]; omega)]
def spStepsByState : Sp := fun vs H Q _ => ∃ (m : Mach) (v1 : V), vs = [v1] ∧ rMach H v1 m ∧ MOk m ∧
  ∀ (p : Addr) (H' : Hp) (qs : List Addr), Fe H H' → Mat (rP rC rN) H H' p qs (stepRows m.1 m.2.2) → Q (.ref p) H'
theorem ok_steps_by_state (T : Txt K g) : FnOk P w K g base CX0 1 T.d_steps_by_state.f T.d_steps_by_state.fd P_steps_by_state spStepsByState := by
  refine T.d_steps_by_state.F.ok sc_steps_by_state (fun vs H Q E h => ?_) (fun cdv A outer s H vs Q E hr h => ?_)
  · obtain ⟨m, v1, rfl, _⟩ := h
    rfl
  · obtain ⟨m, v1, rfl, hm, ok, kk⟩ := h
    have hu := hu_of hr
    refine ⟨_, (pss_cons (ps_setLc (i := 1) (own := [("_", 5)]) rfl sc_steps_by_state.nd rfl rfl (sw_true rfl rfl rfl (by decide +kernel)) (pi_range1 rfl T.z_range (pa_cons (pe_ix (kx_tup (K := K) rfl) (pv 0) pe_int (fun _ _ => rfl)) pa_nil)) (blkOk_by (N := N_steps_by_state) (sc := defScope s_steps_by_state) (by decide +kernel)) (fun _ _ _ _ _ => by exact (pg_name (i := 5) sc_steps_by_state.nd rfl (by first | exact Or.inl rfl | exact Or.inr rfl))) (fun _ _ _ _ _ => by exact pts_nil) (fun _ _ _ _ _ => by exact (pe_lst pa_nil)))
    (pss_cons (ps_for PassesOwn.never rfl (ki_tup (K := K) rfl (pe_ix (kx_tup (K := K) rfl) (pv 0) pe_int (fun _ _ => rfl))) (kg_tup (K := K) 3 rfl rfl (pgs_cons (pg_name (i := 2) sc_steps_by_state.nd rfl (by first | exact Or.inl rfl | exact Or.inr rfl)) (pgs_cons (pg_name (i := 3) sc_steps_by_state.nd rfl (by first | exact Or.inl rfl | exact Or.inr rfl)) (pgs_cons (pg_name (i := 4) sc_steps_by_state.nd rfl (by first | exact Or.inl rfl | exact Or.inr rfl)) pgs_nil))))
      (pss_one (ps_expr (ke_bm (K := K) rfl PySem.F.plainAttrs_list PySem.F.slot_list_append PySem.F.type_list_append mt_append (pe_ix (kx_list (K := K) rfl) (pv 1) (pv 2) (fun _ _ => rfl)) (pa_cons (pe_tup (pa_cons (pv 3) (pa_cons (pv 4) pa_nil))) pa_nil)))))
    (pss_one (ps_ret (pv 1))))), ?_⟩
    obtain ⟨a, x, y, z, rfl, ha, rfl, hends, hst⟩ := id hm
    obtain ⟨b, sts, rfl, hb, hsts⟩ := id hst
    have hfew := ok.few
    refine ⟨_, rfl, a, _, _, _, rfl, rfl, SqT.of ha, rfl, _, rfl, by omega, by omega, fun p hp => lc_range (MatC H p) (MatC.start hp) ?_ ?_⟩
    · intro i H' hi mc
      exact ⟨rfl, mc.go (by omega)⟩
    · intro H1 mc
      have e1 := mc.2.1
      obtain ⟨qs, M⟩ := mc.mat (r := rP rC rN) (Fx.refl [] H)
      refine ⟨_, rfl, a, _, _, _, rfl, rfl, SqT.of (e1.k ha), rfl, b, rfl, ⟨_, SqT.of (e1.k hb)⟩, for_tup (K := K) (a := b) (xs := sts) (fun i σ' H' => ∃ (o1 o2 o3 : Option V), σ' = [some (.ref a), some (.ref p), o1, o2, o3, none] ∧ Fe H H' ∧
        Mat (rP rC rN) H H' p qs (stepRows m.1 (m.2.2.take i)) ) ⟨none, none, none, rfl, e1, ?_⟩ (fun i σ' H' _ ⟨_, _, _, _, e, _⟩ => SqT.of (e.k hb)) ?_ ?_⟩
      · have : List.replicate (m.1 : Int).toNat ([] : List (Nat × Nat)) = stepRows m.1 (m.2.2.take 0) := by
          apply List.ext_getElem?
          intro i
          rw [Int.toNat_natCast, List.getElem?_replicate]
          split
          · rename_i h; rw [stepRows_at h]; rfl
          · rename_i h; rw [List.getElem?_eq_none (by rw [stepRows_len]; omega)]
        rw [← this]; exact M
      · rintro i x σ' H' hx ⟨o1, o2, o3, rfl, e, M⟩
        obtain ⟨s, hs, hxr⟩ := hsts.get hx
        obtain ⟨c, x, y, z, rfl, hc, rfl, rfl, rfl⟩ := id hxr
        have hsm : s ∈ m.2.2 := List.mem_of_getElem? hs
        obtain ⟨q, xs, hq, hqm, hqx, hal⟩ := M.get (stepRows_at (ok.st s hsm).1)
        refine ⟨c, _, rfl, SqT.of (e.k hc), rfl, _, _, rfl, _, _, rfl, _, _, rfl, rfl, ?_⟩
        have hxl : xs.length ≤ 100 := by
          rw [hal.len, List.length_map]
          have h1 := List.length_filter_le (fun u : Nat × Nat × Nat => u.1 == s.1) (m.2.2.take i)
          have h2 := ok.fewS
          rw [List.length_take] at h1
          omega
        refine ⟨_, rfl, _, rfl, p, _, _, .ref q, rfl, rfl, SqL.of M.at_, atI_nat (by rw [List.getElem?_map, hq]; rfl), .inl ⟨rfl, _, SqL.of hqx⟩, _, rfl, _, rfl, by show 2 ≤ sizeLine; decide, fun W hW => ?_⟩
        have fW : Fe H' (upd H' W (.tup [.str ⟨#[s.2.1]⟩, .int (s.2.2 : Int)])) := Fe.new hW
        refine ⟨q, xs, _, rfl, rfl, fW.k hqx, by rw [sizeLine_eq]; omega, ?_⟩
        have M2 := (M.fe fW).put (i := s.1) (v := .ref W) (x := s.2) hq (stepRows_at (ok.st s hsm).1) (fW.k hqx) (Al.mo fW hal) ⟨W, _, _, rfl, upd_same, rfl, rfl⟩
        refine ⟨_, _, _, rfl, (e.trans fW).mut (M.new q hqm), ?_⟩
        rw [stepRows_put (ok.st s hsm).1] at M2
        rw [List.take_add_one, hs]
        exact M2
      · rintro σ' H' ⟨o1, o2, o3, rfl, e, M⟩
        rw [hsts.len, List.take_of_length_le (Nat.le_refl _)] at M
        exact ⟨_, rfl, kk p H' qs e M⟩
/-! ### live_flags -/
/-- live states -/
def Live (m : Mach) (q : Nat) : Prop := Rch (stepRows m.1 m.2.2) [0] q ∧ Bch (stepRows m.1 m.2.2) m.2.1 q
def spLiveFlags : Sp := fun vs H Q _ => ∃ (m : Mach) (v1 : V), vs = [v1] ∧ rMach H v1 m ∧ MOk m ∧
  ∀ (v : V) (H' : Hp) (fl : List Bool), Fe H H' → rL rB H' v fl → fl.length = m.1 → (∀ n, fl[n]? = some true ↔ Live m n) → Q v H'
end
end Fm
/-! rows of least costs -/
namespace Fm
open PySem L2
theorem ixn {n j : Nat} (hj : j < n) : ixN n (j : Int) = some j := by
  unfold ixN
  rw [if_pos (by omega), if_pos (by omega)]
  simp
abbrev CRow := List (Option Nat)
def oV : Option Nat → V
  | none => .non
  | some c => .int (c : Int)
theorem opt_oV {H : Hp} {v : V} {o : Option Nat} (h : rO rN H v o) : v = oV o := by
  cases o with
  | none => exact h
  | some c => exact h
theorem Al.opts {H : Hp} : ∀ {xs : List V} {l : CRow}, Al (rO rN) H xs l → xs = l.map oV
  | _, _, .nil => rfl
  | _, _, .cons h t => by rw [List.map_cons, ← Al.opts t, opt_oV h]
theorem Al.ofOpts {H : Hp} : ∀ l : CRow, Al (rO rN) H (l.map oV) l
  | [] => .nil
  | none :: l => .cons rfl (Al.ofOpts l)
  | some c :: l => .cons rfl (Al.ofOpts l)
/-- the least number of a set, none of the empty one -/
def Least (A : Nat → Prop) : Option Nat → Prop
  | none => ∀ c, ¬ A c
  | some c => A c ∧ ∀ d, A d → c ≤ d
theorem Least.uniq {A : Nat → Prop} : ∀ {o p : Option Nat}, Least A o → Least A p → o = p
  | none, none, _, _ => rfl
  | none, some c, h, k => absurd k.1 (h c)
  | some c, none, h, k => absurd h.1 (k c)
  | some c, some d, h, k => by
    have h1 := h.2 d k.1
    have h2 := k.2 c h.1
    rw [Nat.le_antisymm h1 h2]
theorem Least.congr {A B : Nat → Prop} (h : ∀ c, A c ↔ B c) {o : Option Nat} (l : Least A o) : Least B o := by
  have : A = B := funext fun c => propext (h c)
  rw [← this]; exact l
/-- each place of the row holds the least number of its set -/
structure LRow (n : Nat) (A : Nat → Nat → Prop) (row : CRow) : Prop where
  len : row.length = n
  snd : ∀ (h c : Nat), row[h]? = some (some c) → A h c
  low : ∀ h c, A h c → ∃ c', row[h]? = some (some c') ∧ c' ≤ c
theorem LRow.least {n : Nat} {A : Nat → Nat → Prop} {row : CRow} (R : LRow n A row) {h : Nat} {o : Option Nat} (e : row[h]? = some o) : Least (A h) o := by
  cases o with
  | none =>
    intro c hc
    obtain ⟨c', h1, _⟩ := R.low h c hc
    rw [e] at h1; cases h1
  | some c =>
    refine ⟨R.snd h c e, fun d hd => ?_⟩
    obtain ⟨c', h1, h2⟩ := R.low h d hd
    rw [e] at h1; cases h1
    exact h2
theorem LRow.imp {n : Nat} {A B : Nat → Nat → Prop} {row : CRow} (R : LRow n A row) (h1 : ∀ h c, A h c → B h c) (h2 : ∀ h c, B h c → ∃ c', A h c' ∧ c' ≤ c) : LRow n B row :=
  ⟨R.len, fun h c e => h1 h c (R.snd h c e), fun h c e => by
    obtain ⟨c', a, l⟩ := h2 h c e
    obtain ⟨c2, a2, l2⟩ := R.low h c' a
    exact ⟨c2, a2, Nat.le_trans l2 l⟩⟩
theorem LRow.lt {n : Nat} {A : Nat → Nat → Prop} {row : CRow} (R : LRow n A row) {h c : Nat} (a : A h c) : h < n := by
  obtain ⟨c', e, _⟩ := R.low h c a
  rw [← R.len]; exact (List.getElem?_eq_some_iff.mp e).1
theorem LRow.nothing (n : Nat) : LRow n (fun _ _ => False) (List.replicate n none) := by
  refine ⟨List.length_replicate, fun h c e => ?_, fun _ _ z => z.elim⟩
  rw [List.getElem?_replicate] at e
  split at e
  · cases e
  · cases e
/-- is v better than what stands there? -/
def Bet (o : Option Nat) (v : Nat) : Prop := ∀ c, o = some c → v < c
theorem LRow.put {n : Nat} {A : Nat → Nat → Prop} {row : CRow} (R : LRow n A row) {to v : Nat} {o : Option Nat} (h : row[to]? = some o) (b : Bet o v) : LRow n (fun h c => A h c ∨ (h = to ∧ c = v)) (row.set to (some v)) where
  len := by rw [List.length_set]; exact R.len
  snd := fun k c e => by
    rw [List.getElem?_set] at e
    by_cases q : to = k
    · subst q
      rw [if_pos rfl, if_pos (List.getElem?_eq_some_iff.mp h).1] at e
      cases e; exact .inr ⟨rfl, rfl⟩
    · rw [if_neg q] at e
      exact .inl (R.snd k c e)
  low := fun k c e => by
    by_cases q : to = k
    · subst q
      refine ⟨v, by rw [List.getElem?_set, if_pos rfl, if_pos (List.getElem?_eq_some_iff.mp h).1], ?_⟩
      rcases e with e | ⟨_, rfl⟩
      · obtain ⟨c', h1, h2⟩ := R.low to c e
        rw [h] at h1; cases h1
        exact Nat.le_trans (Nat.le_of_lt (b c' rfl)) h2
      · exact Nat.le_refl _
    · rcases e with e | ⟨rfl, _⟩
      · obtain ⟨c', h1, h2⟩ := R.low k c e
        exact ⟨c', by rw [List.getElem?_set, if_neg q]; exact h1, h2⟩
      · exact absurd rfl q
theorem LRow.keep {n : Nat} {A : Nat → Nat → Prop} {row : CRow} (R : LRow n A row) {to v : Nat} {o : Option Nat} (h : row[to]? = some o) (b : ¬ Bet o v) : LRow n (fun h c => A h c ∨ (h = to ∧ c = v)) row := by
  refine R.imp (fun _ _ => .inl) ?_
  rintro k c (e | ⟨rfl, rfl⟩)
  · exact ⟨c, e, Nat.le_refl _⟩
  · cases o with
    | none => exact absurd (fun _ z => nomatch z) b
    | some d =>
      refine ⟨d, R.snd _ _ h, ?_⟩
      apply Nat.le_of_not_lt
      intro l
      exact b fun c' z => by cases z; exact l
/-- closed under moves that read nothing -/
inductive Cl (S : Nat → Nat → Nat → Prop) (A : Nat → Nat → Prop) : Nat → Nat → Prop
  | beg {h c : Nat} : A h c → Cl S A h c
  | step {h c to d : Nat} : Cl S A h c → S h to d → Cl S A to (c + d)
/-- behind one move each -/
def Bh (S : Nat → Nat → Nat → Prop) (A : Nat → Nat → Prop) (to c : Nat) : Prop := ∃ h c0 d, A h c0 ∧ S h to d ∧ c = c0 + d
/-- a move is heeded -/
def Rx (row : CRow) (h to d : Nat) : Prop := ∀ c, row[h]? = some (some c) → ∃ c', row[to]? = some (some c') ∧ c' ≤ c + d
def wt (B : Nat) : Option Nat → Nat
  | none => B + 1
  | some c => c
def Phi (B : Nat) (row : CRow) : Nat := (row.map (wt B)).sum
theorem sum_set : ∀ (l : List Nat) (i x y : Nat), l[i]? = some y → (l.set i x).sum + y = l.sum + x
  | [], i, x, y, h => by cases i <;> cases h
  | a :: l, 0, x, y, h => by cases h; rw [List.set_cons_zero, List.sum_cons, List.sum_cons]; omega
  | a :: l, i + 1, x, y, h => by
    rw [List.set_cons_succ, List.sum_cons, List.sum_cons]
    have := sum_set l i x y h
    omega
theorem Phi_set {B : Nat} {row : CRow} {i x : Nat} {o : Option Nat} (h : row[i]? = some o) (l : x < wt B o) : Phi B (row.set i (some x)) < Phi B row := by
  unfold Phi
  rw [List.map_set]
  have := sum_set (row.map (wt B)) i (wt B (some x)) (wt B o) (by rw [List.getElem?_map, h]; rfl)
  have e : wt B (some x) = x := rfl
  rw [e] at this ⊢
  omega
theorem cnt_none : ∀ (l : CRow) (i x : Nat), l[i]? = some none → (l.set i (some x)).count none + 1 = l.count none
  | [], i, x, h => by cases i <;> cases h
  | a :: l, 0, x, h => by cases h; rw [List.set_cons_zero, List.count_cons, List.count_cons]; simp
  | a :: l, i + 1, x, h => by
    rw [List.set_cons_succ, List.count_cons, List.count_cons]
    have := cnt_none l i x h
    omega
theorem cnt_some : ∀ (l : CRow) (i x c : Nat), l[i]? = some (some c) → (l.set i (some x)).count none = l.count none
  | [], i, x, c, h => by cases i <;> cases h
  | a :: l, 0, x, c, h => by cases h; rw [List.set_cons_zero, List.count_cons, List.count_cons]; simp
  | a :: l, i + 1, x, c, h => by
    rw [List.set_cons_succ, List.count_cons, List.count_cons]
    have := cnt_some l i x c h
    omega
/-- a row while it is closed: S the moves, their costs at most D; at first nothing above M -/
structure Rlx (n : Nat) (S : Nat → Nat → Nat → Prop) (A : Nat → Nat → Prop) (M D : Nat) (row : CRow) : Prop where
  len : row.length = n
  snd : ∀ (h c : Nat), row[h]? = some (some c) → Cl S A h c
  low : ∀ h c, A h c → ∃ c', row[h]? = some (some c') ∧ c' ≤ c
  cap : ∀ (h c : Nat), row[h]? = some (some c) → c ≤ M + (n - row.count none) * D
theorem cnt_le (l : CRow) : l.count none ≤ l.length := List.count_le_length
section
variable {n : Nat} {S : Nat → Nat → Nat → Prop} {A : Nat → Nat → Prop} {M D : Nat} {row : CRow}
theorem Rlx.start (R : LRow n A row) (hM : ∀ (h c : Nat), row[h]? = some (some c) → c ≤ M) : Rlx n S A M D row :=
  ⟨R.len, fun h c e => .beg (R.snd h c e), R.low, fun h c e => Nat.le_trans (hM h c e) (Nat.le_add_right _ _)⟩
theorem Rlx.capB (R : Rlx n S A M D row) {h c : Nat} (e : row[h]? = some (some c)) : c ≤ M + n * D :=
  Nat.le_trans (R.cap h c e) (Nat.add_le_add_left (Nat.mul_le_mul_right _ (Nat.sub_le _ _)) _)
theorem Rlx.put (R : Rlx n S A M D row) {h to c d : Nat} {o : Option Nat} (hh : row[h]? = some (some c)) (s : S h to d) (hd : d ≤ D) (ho : row[to]? = some o) (b : Bet o (c + d)) :
    Rlx n S A M D (row.set to (some (c + d))) ∧ Phi (M + n * D) (row.set to (some (c + d))) < Phi (M + n * D) row := by
  have hl := (List.getElem?_eq_some_iff.mp ho).1
  have hcn := cnt_le row
  have hln := R.len
  have key : c + d ≤ M + (n - (row.set to (some (c + d))).count none) * D ∧ (n - row.count none) * D ≤ (n - (row.set to (some (c + d))).count none) * D ∧ c + d < wt (M + n * D) o := by
    have h1 := R.cap h c hh
    cases o with
    | none =>
      have h2 := cnt_none row to (c + d) ho
      have h3 : n - (row.set to (some (c + d))).count none = (n - row.count none) + 1 := by omega
      rw [h3, Nat.succ_mul]
      have h4 : (n - row.count none + 1) * D ≤ n * D := Nat.mul_le_mul_right _ (by omega)
      rw [Nat.succ_mul] at h4
      exact ⟨by omega, by omega, by show c + d < M + n * D + 1; omega⟩
    | some e =>
      rw [cnt_some row to (c + d) e ho]
      have h2 := b e rfl
      have h3 := R.cap to e ho
      exact ⟨by omega, by omega, h2⟩
  refine ⟨⟨by rw [List.length_set]; exact R.len, fun k c' e => ?_, fun k c' e => ?_, fun k c' e => ?_⟩, Phi_set ho key.2.2⟩
  · rw [List.getElem?_set] at e
    by_cases q : to = k
    · subst q
      rw [if_pos rfl, if_pos hl] at e
      cases e
      exact .step (R.snd h c hh) s
    · rw [if_neg q] at e
      exact R.snd k c' e
  · obtain ⟨c2, h1, h2⟩ := R.low k c' e
    by_cases q : to = k
    · subst q
      rw [ho] at h1; cases h1
      exact ⟨c + d, by rw [List.getElem?_set, if_pos rfl, if_pos hl], Nat.le_trans (Nat.le_of_lt (b c2 rfl)) h2⟩
    · exact ⟨c2, by rw [List.getElem?_set, if_neg q]; exact h1, h2⟩
  · rw [List.getElem?_set] at e
    by_cases q : to = k
    · subst q
      rw [if_pos rfl, if_pos hl] at e
      cases e
      exact key.1
    · rw [if_neg q] at e
      exact Nat.le_trans (R.cap k c' e) (Nat.add_le_add_left key.2.1 _)
/-- the other moves stay heeded -/
theorem Rx.put {to v k t2 d2 : Nat} {o : Option Nat} (ho : row[to]? = some o) (b : Bet o v) (ne : k ≠ to) (r : Rx row k t2 d2) : Rx (row.set to (some v)) k t2 d2 := by
  intro c e
  have hl := (List.getElem?_eq_some_iff.mp ho).1
  rw [List.getElem?_set, if_neg ne.symm] at e
  obtain ⟨c', h1, h2⟩ := r c e
  by_cases q : to = t2
  · subst q
    rw [ho] at h1; cases h1
    exact ⟨v, by rw [List.getElem?_set, if_pos rfl, if_pos hl], Nat.le_trans (Nat.le_of_lt (b c' rfl)) h2⟩
  · exact ⟨c', by rw [List.getElem?_set, if_neg q]; exact h1, h2⟩
theorem Rx.here {h to c d : Nat} {o : Option Nat} (hh : row[h]? = some (some c)) (ho : row[to]? = some o) (b : Bet o (c + d)) : Rx (row.set to (some (c + d))) h to d := by
  intro c2 e
  have hl := (List.getElem?_eq_some_iff.mp ho).1
  refine ⟨c + d, by rw [List.getElem?_set, if_pos rfl, if_pos hl], ?_⟩
  rw [List.getElem?_set] at e
  by_cases q : to = h
  · subst q
    rw [hh] at ho; cases ho
    exact absurd (b c rfl) (by omega)
  · rw [if_neg q, hh] at e; cases e
    exact Nat.le_refl _
theorem Rx.well {h to c d : Nat} {o : Option Nat} (hh : row[h]? = some (some c)) (ho : row[to]? = some o) (b : ¬ Bet o (c + d)) : Rx row h to d := by
  intro c2 e
  rw [hh] at e; cases e
  cases o with
  | none => exact absurd (fun _ z => nomatch z) b
  | some e =>
    refine ⟨e, ho, Nat.le_of_not_lt fun l => b fun c' z => by cases z; exact l⟩
theorem Rlx.done (R : Rlx n S A M D row) (h : ∀ k to d, S k to d → Rx row k to d) : LRow n (Cl S A) row where
  len := R.len
  snd := R.snd
  low := fun k c e => by
    induction e with
    | beg e => exact R.low _ _ e
    | step _ s ih =>
      obtain ⟨c', h1, h2⟩ := ih
      obtain ⟨c2, h3, h4⟩ := h _ _ _ s c' h1
      exact ⟨c2, h3, by omega⟩
end
theorem row_max (row : CRow) : ∃ M, ∀ (h c : Nat), row[h]? = some (some c) → c ≤ M := by
  induction row with
  | nil => exact ⟨0, fun h c e => by cases h <;> cases e⟩
  | cons o row ih =>
    obtain ⟨M, hM⟩ := ih
    refine ⟨M + wt 0 o, fun h c e => ?_⟩
    cases h with
    | zero => cases e; show c ≤ M + c; omega
    | succ h => have := hM h c e; omega
theorem list_max (l : List Nat) : ∃ M, ∀ x ∈ l, x ≤ M := by
  induction l with
  | nil => exact ⟨0, fun _ h => nomatch h⟩
  | cons a l ih =>
    obtain ⟨M, hM⟩ := ih
    refine ⟨M + a, fun x h => ?_⟩
    rcases List.mem_cons.mp h with rfl | h
    · omega
    · have := hM x h; omega
theorem bet_none {v : Nat} : Bet none v := fun _ z => nomatch z
theorem bet_some {e v : Nat} : Bet (some e) v ↔ v < e := ⟨fun h => h e rfl, fun h c z => by cases z; exact h⟩
/-- sets closed, behind: they keep what is the same -/
theorem Cl.congr {S : Nat → Nat → Nat → Prop} {A B : Nat → Nat → Prop} (h : ∀ x c, A x c → B x c) {x c : Nat} (q : Cl S A x c) : Cl S B x c := by
  induction q with
  | beg e => exact .beg (h _ _ e)
  | step _ s ih => exact .step ih s
end Fm
/-! the least number of a set, as a function -/
namespace Fm
open PySem L2
theorem least_ex (A : Nat → Prop) : ∃ o, Least A o := by
  by_cases h : ∃ c, A c
  · obtain ⟨c, hc⟩ := h
    induction c using Nat.strongRecOn with
    | _ c ih =>
      by_cases q : ∃ d, d < c ∧ A d
      · obtain ⟨d, h1, h2⟩ := q
        exact ih d h1 h2
      · exact ⟨some c, hc, fun d hd => Nat.le_of_not_lt fun l => q ⟨d, l, hd⟩⟩
  · exact ⟨none, fun c hc => h ⟨c, hc⟩⟩
noncomputable def least (A : Nat → Prop) : Option Nat := Classical.choose (least_ex A)
theorem least_is (A : Nat → Prop) : Least A (least A) := Classical.choose_spec (least_ex A)
theorem least_eq {A : Nat → Prop} {o : Option Nat} (h : Least A o) : least A = o := (least_is A).uniq h
theorem Least.eq {A : Nat → Prop} {o : Option Nat} (h : Least A o) : o = least A := h.uniq (least_is A)
/-- sets with the same least number: each holds something at most what the other one holds -/
theorem least_same {A B : Nat → Prop} (h1 : ∀ c, A c → ∃ d, B d ∧ d ≤ c) (h2 : ∀ c, B c → ∃ d, A d ∧ d ≤ c) : least A = least B := by
  apply least_eq
  cases e : least B with
  | none =>
    intro c hc
    obtain ⟨d, hd, _⟩ := h1 c hc
    have := least_is B
    rw [e] at this
    exact this d hd
  | some b =>
    have hb := least_is B
    rw [e] at hb
    obtain ⟨d, hd, hl⟩ := h2 b hb.1
    obtain ⟨d2, hd2, hl2⟩ := h1 d hd
    have h3 := hb.2 d2 hd2
    have : d = b := by omega
    subst this
    refine ⟨hd, fun c hc => ?_⟩
    obtain ⟨d3, hd3, hl3⟩ := h1 c hc
    have := hb.2 d3 hd3
    omega
theorem least_congr {A B : Nat → Prop} (h : ∀ c, A c ↔ B c) : least A = least B := by
  have : A = B := funext fun c => propext (h c)
  rw [this]
theorem joinL_chars : ∀ l : List Nat, TL.joinL [] (l.map fun c => [c]) = l
  | [] => rfl
  | [c] => rfl
  | c :: d :: l => by
    show [c] ++ ([] ++ TL.joinL [] ((d :: l).map fun c => [c])) = _
    rw [joinL_chars (d :: l)]; rfl
theorem join_chars (l : List Nat) : PySem.Txt.join ⟨([] : List Nat).toArray⟩ ((l.map fun c => [c]).map SX.S) = ⟨l.toArray⟩ := by
  have := SX.join_S [] (l.map fun c => [c])
  rw [joinL_chars] at this
  exact this
theorem oV_scal (o p : Option Nat) : scal (oV o) (oV p) = true := by cases o <;> cases p <;> rfl
theorem oV_dec (o p : Option Nat) : decide (oV o = oV p) = decide (o = p) := by
  have : (oV o = oV p) ↔ o = p := by
    constructor
    · intro h
      cases o with
      | none => cases p with
        | none => rfl
        | some d => cases h
      | some c => cases p with
        | none => cases h
        | some d =>
          have := V.int.inj h
          rw [Int.ofNat.inj this]
    · intro h; rw [h]
  exact decide_eq_decide.mpr this
theorem rep_oV (n : Nat) : (List.replicate n [V.non]).flatten = (List.replicate n none : CRow).map oV := by
  induction n with
  | zero => rfl
  | succ n ih => rw [List.replicate_succ, List.replicate_succ, List.flatten_cons, ih]; rfl
theorem oV_none {o : Option Nat} : decide (oV o = V.non) = o.isNone := by
  cases o <;> rfl
end Fm
/-! set(..) of a list, by what each item's adding keeps -/
namespace Fm
open PySem PySem.Spec PyProof.Rows L2
abbrev bareSet (w : World) : Obj := { cls := .type "set", dict := none, data := .set #[] 0 (.fresh 0 0 (!w.params.followText "set-order")) }
section
variable {P : Program} {w : World} {A : Around} {s : Shared}
/-- what adding the items does to the set at S: Iv i holds behind i of them; all that h0 knew stands -/
structure Adds (P : Program) (w : World) (A : Around) (S : Addr) (h0 : Heap) (n : Nat) (Pv : Nat → Value → Prop) (Iv : Nat → Heap → Prop) : Prop where
  still : ∀ {i : Nat} {h h' : Heap}, Iv i h → (∀ o, h.get? S = some o → h'.get? S = some o) → (∀ b o, h0.get? b = some o → h'.get? b = some o) → Iv i h'
  add : ∀ {i : Nat} {v : Value} {s : Shared} {E : Value → Shared → Prop} {Q : Bool → Shared → Prop}, i < n → Pv i v → Iv i s.heap → (∀ b o, h0.get? b = some o → s.heap.get? b = some o) →
    (∀ (b : Bool) (h' : Heap) (tk : Nat), Heap.SameBut S s.heap h' → Iv (i + 1) h' → s.toks ≤ tk → Q b { s with heap := h', toks := tk }) → wpAny (model P w) A (setAdd S v) Q E s
theorem set_loop {I S : Addr} {fp wr : List Addr} {G : Array GenState → Array GenState → Prop} {n : Nat} {Pv : Nat → Value → Prop} {St : Nat → Shared → Prop} {R : Result → Shared → Prop} {h0 : Heap} {Iv : Nat → Heap → Prop}
    (W : WalksS P w A.in1 I fp wr G n Pv St) (hSf : S ∉ fp) (ad : Adds P w A.in1 S h0 n Pv Iv) (hS0 : h0.get? S = none) (hw0 : ∀ b ∈ wr, h0.get? b = none) :
    ∀ (k i : Nat) (s : Shared), i + k = n → St i s → (∀ b o, h0.get? b = some o → s.heap.get? b = some o) → Iv i s.heap →
      (∀ s', Moved (S :: wr) G s s' → Iv n s'.heap → (∀ b o, h0.get? b = some o → s'.heap.get? b = some o) → R (.ok (.ret .none)) s') →
      codeAny (model P w) A (.builtin "set.update.loop" ⟨[.ref S, .ref I], []⟩) R s := by
  have nSw : S ∉ wr := fun z => hSf (W.sub _ z)
  have wide : ∀ b ∈ wr, b ∈ S :: wr := fun b hb => List.mem_cons_of_mem _ hb
  have old : ∀ {s s' : Shared}, Moved wr G s s' → (∀ b o, h0.get? b = some o → s.heap.get? b = some o) → ∀ b o, h0.get? b = some o → s'.heap.get? b = some o := fun mv kp b o e =>
    mv.heap b o (fun z => by have := hw0 b z; rw [e] at this; cases this) (kp b o e)
  intro k
  induction k with
  | zero =>
    intro i s hik hst hkp hI hR
    have e : i = n := by omega
    subst e
    refine codeAny_builtin F.entry_set_update_loop ?_
    rw [Around.under_plainId F.plain_set_update_loop _]
    show wpAny (model P w) A.in1 (pyNext (.ref I) >>= _) _ _ s
    refine wpAny_bind (W.done s _ _ hst fun s' mv => ?_)
    show wpAny (model P w) A.in1 (ret Value.none) _ _ s'
    exact wpAny_pure (hR s' (mv.mono wide) (ad.still hI (fun o e => mv.heap S o nSw e) (old mv hkp)) (old mv hkp))
  | succ k ih =>
    intro i s hik hst hkp hI hR
    refine codeAny_builtin F.entry_set_update_loop ?_
    rw [Around.under_plainId F.plain_set_update_loop _]
    show wpAny (model P w) A.in1 (pyNext (.ref I) >>= _) _ _ s
    refine wpAny_bind (W.item i s _ _ (by omega) hst fun v s' hP hst' mv => ?_)
    show wpAny (model P w) A.in1 (holding [v] (setAdd S v) >>= _) _ _ s'
    refine wpAny_bind (wpAny_holding (ad.add (by omega) hP (ad.still hI (fun o e => mv.heap S o nSw e) (old mv hkp)) (old mv hkp) fun b h' tk sb hI2 htk => ?_))
    have kp2 : ∀ b o, h0.get? b = some o → h'.get? b = some o := fun b o e => (sb.2 b fun z => by rw [z, hS0] at e; cases e).trans (old mv hkp b o e)
    refine wpAny_pure ⟨plainId_quiet F.plain_set_update_loop _, ih (i + 1) _ (by omega) (W.frame _ s' _ _ hst' htk fun b hb o e => (sb.2 b fun z => hSf (z ▸ hb)).trans e) kp2 hI2 fun s2 mv2 hI3 kp3 => ?_⟩
    exact hR s2 (Moved.trans W.gtrans ((mv.mono wide).then_heap htk fun b o hb e => (sb.2 b fun z => hb (by rw [z]; exact List.mem_cons_self)).trans e) mv2) hI3 kp3
theorem none_over {h : Heap} {b : Addr} (hb : h.objs.size ≤ b) : h.get? b = none := by
  cases q : h.get? b with
  | none => rfl
  | some o => exact absurd (Nat.lt_of_lt_of_le (Heap.lt_size q) hb) (Nat.lt_irrefl _)
set_option maxHeartbeats 6400000 in
/-- set(xs), xs a list -/
theorem call_set_gen {E : Value → Shared → Prop} {l : Addr} {items : Array Value} {Iv : Nat → Heap → Prop} {Q : Value → Shared → Prop} (hh : A.handled = none) (hl : s.heap.IsList l items)
    (ad : ∀ A' : Around, A'.units ≤ A.units + 3 → A'.handled = none → Adds P w A' s.heap.objs.size s.heap items.size (fun i v => items[i]? = some v) Iv)
    (h0 : ∀ h : Heap, h.get? s.heap.objs.size = some (bareSet w) → (∀ b o, s.heap.get? b = some o → h.get? b = some o) → Iv 0 h)
    (hQ : ∀ (h' : Heap) (tk : Nat), Iv items.size h' → (∀ b o, s.heap.get? b = some o → h'.get? b = some o) → Q (.ref s.heap.objs.size) { s with heap := h', toks := tk }) :
    wpAny (model P w) A (call (.type "set") [.ref l]) Q E s := by
  obtain ⟨c, tl, hmro⟩ := F.called_set.mro
  have hmade := F.called_set.made
  have hsub := F.called_set.sub
  refine wpAny_call (codeAny_of_tree ?_)
  show wpAny _ _ (callAny (.type "set") _) _ _ _
  refine wpAny_pure ⟨Code.quiet_builtin _ (by decide +kernel), codeAny_builtin F.entry_type_call ?_⟩
  rw [Around.under_plain (weight_type_call_type "set" [.ref l] []) rfl]
  have h1 := F.called_set.notType
  have h2 := F.called_set.canCreate
  have hct := F.typeCall_set_1 (.ref l)
  repeat (any_goals (first | assumption | wp_step))
  refine codeAny_mono (code_set_led1 (.ref l) (E := E) (Q₁ := fun z s₁ => z = .ref s.heap.objs.size ∧ s₁ = { s with heap := s.heap.push (bareSet w) }) ⟨rfl, rfl⟩) fun r s₁ hr => ?_
  cases r with
  | error e => exact hr
  | ok fl =>
    cases fl with
    | ret z =>
      obtain ⟨rfl, rfl⟩ := hr
      have hS : (s.heap.push (bareSet w)).get? s.heap.objs.size = some (bareSet w) := Heap.get?_push_size _ rfl
      have hT : Shared.TypeIs { s with heap := s.heap.push (bareSet w) } (.ref s.heap.objs.size) "set" := ⟨_, hS, rfl⟩
      have hli := F.called_set.init.lookup
      have hbi := F.called_set.init.bind (.ref s.heap.objs.size)
      repeat (any_goals (first | assumption | wp_step))
      refine codeAny_mono (codeAny_call_builtin (R := wants (fun r s₂ => r = .none ∧ ∃ h' tk, s₂ = { s with heap := h', toks := tk } ∧ Iv items.size h' ∧ (∀ b o, s.heap.get? b = some o → h'.get? b = some o)) E) F.called_set.init.plain F.entry_set_init (check_set_init_1 hT ?_)) fun r₂ s₂ hr₂ => ?_
      · obtain ⟨ol, hol, hcl, nl, hdl⟩ := hl
        obtain ⟨ocls, odict, odata, oslots⟩ := ol
        simp only at hcl hdl
        subst hcl; subst hdl
        have hol' : (s.heap.push (bareSet w)).get? l = some { cls := .type "list", dict := odict, data := .seq items nl, slots := oslots } := Heap.get?_push_of_some _ hol
        have hsls := F.sub_list_set
        have hslf := F.sub_list_frozenset
        have hne : (Value.type "list" == Value.type "dict") = false := by decide
        have hl1 : (s.heap.push (bareSet w)).IsList l items := ⟨_, hol', rfl, nl, rfl⟩
        unfold Builtin.«set.__init__» noKeywords Builtin.Frozenset.updateFrom
        generalize hPI : pyIter = PI
        wp_walk
        subst hPI
        refine wpAny_pyIter_list hl1 ?_
        refine wpAny_bind (wpAny_runValue ?_)
        have hlS : l < s.heap.objs.size := Heap.lt_size hol
        have hh3 : A.in1.in1.in1.handled = none := by simp [hh]
        have hz : (s.heap.push (bareSet w)).objs.size = s.heap.objs.size + 1 := Heap.size_push ..
        refine set_loop ((Walks.list hh3 _ l (by rw [hz]; exact Nat.ne_of_lt (Nat.lt_succ_of_lt hlS)) items).toS) ?_ (ad _ ?_ hh3) (none_over (Nat.le_refl _)) (fun b hb => none_over (by
            rw [List.mem_singleton.mp hb, hz]
            exact Nat.le_succ _)) items.size 0 _ (by omega) ⟨⟨_, Heap.get?_push_size _ rfl, rfl, rfl⟩, (hl1.push _)⟩ (fun b o e => Heap.get?_push_of_some _ (Heap.get?_push_of_some _ e)) (h0 _ (Heap.get?_push_of_some _ hS) fun b o e => Heap.get?_push_of_some _ (Heap.get?_push_of_some _ e)) ?_
        · rw [hz]; simp only [List.mem_cons, List.mem_singleton, List.not_mem_nil, or_false, not_or]
          exact ⟨Nat.ne_of_lt (Nat.lt_succ_self _), Nat.ne_of_gt hlS⟩
        · exact Nat.le_refl _
        · intro s' mv hI kp
          obtain ⟨h', g2, d', tk', os'⟩ := s'
          have eg : g2 = s.gens := mv.gens
          have ed : d' = s.drawn := mv.drawn
          have eo : os' = s.os := mv.os
          subst eg; subst ed; subst eo
          show wpAny _ _ _ _ _ _
          refine wpAny_pure ?_
          show wpAny _ _ (ret Value.none) _ _ _
          exact wpAny_pure ⟨rfl, h', tk', rfl, hI, kp⟩
      · cases r₂ with
        | error e => exact hr₂
        | ok fl₂ =>
          cases fl₂ with
          | ret r =>
            obtain ⟨rfl, h', tk, rfl, hI, kp⟩ := hr₂
            repeat (any_goals (first | assumption | wp_step))
            exact hQ _ _ hI kp
          | _ => exact hr₂.elim
    | _ => exact hr.elim
end
end Fm
/-! sets of ints, of tuples of ints and texts -/
namespace Fm
open PySem PySem.Spec PyProof.Rows L2
/-! ### sets of ints -/
section
variable {P : Program} {w : World} {A : Around} {s : Shared}
theorem setR_bare {h : Heap} {a : Addr} (e : h.get? a = some (bareSet w)) : SetR w h a (fun _ => false) 0 :=
  ⟨_, #[], 0, _, e, ⟨rfl, rfl, rfl⟩, rfl, fun x hx => (by cases hx), List.nodup_nil, fun k => ⟨fun z => (by cases z), fun z => (by cases z)⟩, by decide, rfl, rfl, List.Pairwise.nil, by
    show _ ∨ (!w.params.followText "set-order") = true
    cases w.params.followText "set-order"
    · exact .inr rfl
    · exact .inl rfl⟩
theorem adds_ints {S : Addr} {h0 : Heap} {items : Array Value} {ns : List Int} (hit : ∀ (i : Nat) (v : Value), items[i]? = some v → ∃ k tk, v = Value.int k tk ∧ ns[i]? = some k) (hfew : items.size < 1000) :
    Adds P w A S h0 items.size (fun i v => items[i]? = some v) fun i h => ∃ n, n ≤ i ∧ SetR w h S (fun j => decide (j ∈ ns.take i)) n where
  still := fun ⟨n, hn, R⟩ k _ => ⟨n, hn, R.at k⟩
  add := by
    intro i v s E Q hi hv hI kp hQ
    obtain ⟨n, hn, R⟩ := hI
    obtain ⟨k, tk, rfl, hk⟩ := hit i v hv
    unfold setAdd
    refine wpAny_holding ?_
    refine wpAny_bind ((intKind P w).pyHash (intKind_is P w k tk) ?_)
    refine setR_add_hashed (s := { s with toks := s.toks + 1 }) R (by unfold scanBound; omega) fun h' sb R' => ?_
    refine hQ _ h' _ sb ⟨_, ?_, R'.congr fun j => ?_⟩ (Nat.le_succ _)
    · split <;> omega
    · rw [List.take_add_one, hk, Bool.eq_iff_iff]
      simp
end
section
variable {X : Cx} {K : PySem.W.Frag} {w : World}
/-- set(xs), xs a list of ints -/
def rSetI (K : PySem.W.Frag) (w : World) : List V → Hp → VK → Prop := fun xs H Q => ∃ (l : Addr) (ns : List Int), xs = [V.ref l] ∧ SqL K H l (ns.map V.int) ∧ ns.length < 64 ∧
  ∀ (a : Addr) (n : Nat), H a = none → n ≤ ns.length → Q (.ref a) (upd H a (SetO w a (fun j => decide (j ∈ ns)) n))
theorem kc_setI (h : X.K = K) (hw : X.w = w) (hc : X.calm = true) : CallR X (.type "set") (rSetI K w) := by
  subst h hw
  intro pins s σ H xs us Q I r h
  obtain ⟨l, ns, rfl, hl, hf, q⟩ := h
  rw [Vals.ref1 r]
  obtain ⟨its, rv, pl, hz⟩ := I.list hl
  have hsz : its.toArray.size = ns.length := by rw [List.size_toArray, ← rv.length, List.length_map]
  have hn : H s.heap.objs.size = none := I.hok.fresh (Nat.le_refl _)
  have hit : ∀ (i : Nat) (v : Value), its.toArray[i]? = some v → ∃ k tk, v = Value.int k tk ∧ ns[i]? = some k := fun i v e => by
    rw [List.getElem?_toArray] at e
    clear hsz hz pl hl q hn hf
    generalize hm : ns.map V.int = ms at rv
    induction rv generalizing ns i with
    | nil => cases e
    | cons h1 _ ih =>
      cases ns with
      | nil => cases hm
      | cons n ns =>
        rw [List.map_cons] at hm
        injection hm with h2 h3
        subst h2
        cases i with
        | zero =>
          cases e
          obtain ⟨t, ht⟩ := h1
          exact ⟨n, t, ht, rfl⟩
        | succ i => exact ih _ i e h3
  refine call_set_gen (w := X.w) (Iv := fun i h => ∃ n, n ≤ i ∧ SetR X.w h s.heap.objs.size (fun j => decide (j ∈ ns.take i)) n) (I.ok.hd hc) pl.isList (fun A' _ _ => adds_ints hit (by omega)) (fun h e _ => ⟨0, Nat.le_refl _, setR_bare e⟩) fun h' tk ⟨n, hn2, R⟩ kp => ?_
  rw [hsz, List.take_length] at R
  exact ⟨.ref s.heap.objs.size, _, I.laid (t' := tk) kp (Nat.le_refl _) (setO_new R), rfl, q _ n hn (by omega)⟩
theorem kc_sortedSet (hw : X.w = w) (hc : X.calm = true) : CallR X (.builtin "sorted") (rSortedSet w) := by subst hw; exact cr_sortedSet hc
end
end Fm
/-! sets of tuples of ints and texts: what is in such a set came from the list -/
namespace Fm
open PySem PySem.Spec PyProof.Rows L2
abbrev thM (P : Program) (w : World) (k : List Key) : Int := tupleKeyHash (mixKind P w) k
abbrev IsM (P : Program) (w : World) (h : Heap) (k : List Key) (a : Addr) : Prop := IsTupleKey (mixKind P w) h k a
abbrev TL := List (Addr × List Key)
def rowM (P : Program) (w : World) (L : TL) : List (Int × Value) := L.map fun p => (thM P w p.2, Value.ref p.1)
structure SetM (P : Program) (w : World) (h : Heap) (a : Addr) (L : TL) (es : Array (Int × Value)) (ep : Nat) (t : SetTable) : Prop where
  ob : ∃ o, h.get? a = some o ∧ o.ExactSet ∧ o.data = .set es ep t
  rows : es.toList = rowM P w L
  tab : TabOk t (L.map fun p => thM P w p.2)
  tup : ∀ p ∈ L, IsM P w h p.2 p.1
  led : w.params.followText "set-order" = true ∨ t.led = true
  room : L.length * 5 < t.mask * 3
  few : L.length < 64
section
variable {P : Program} {w : World} {A : Around} {E : Value → Shared → Prop} {s : Shared}
theorem itemM {k : List Key} {vs : List Value} (h : ItemsAre (mixKind P w) k vs) : ∀ v ∈ vs, (∃ i t, v = Value.int i t) ∨ ∃ x t, v = Value.str x t := by
  induction h with
  | nil => intro v hv; cases hv
  | cons h1 _ ih =>
    intro v hv
    rcases List.mem_cons.mp hv with e | hv
    · rcases keyIs_shape h1 with ⟨i, t, _, e2⟩ | ⟨x, t, _, e2⟩
      · exact .inl ⟨i, t, e.trans e2⟩
      · exact .inr ⟨x, t, e.trans e2⟩
    · exact ih v hv
theorem classM {k : List Key} {b : Addr} {Q : Bool → Shared → Prop} (hk : IsM P w s.heap k b) (h : Q false s) : wpAny (model P w) A (ofAClassStatement 8 (.ref b)) Q E s := by
  have hT := hk.typeIs
  obtain ⟨o, items, n, ho, _, hd, hi⟩ := hk
  unfold ofAClassStatement
  refine wpAny_bind (wpAny_typeOf hT ?_)
  dsimp only
  have e : (("tuple" : String) == "tuple") = true := by decide
  simp only [e, if_true, Bool.not_true, Bool.false_eq_true, if_false]
  try refine wpAny_bind (wpAny_pure ?_)
  try simp only [Bool.not_true, Bool.false_eq_true, if_false]
  show wpAny _ _ (seqItems? (.ref b) >>= _) _ _ s
  refine wpAny_bind (wpAny_seqItems ho hd ?_)
  dsimp only
  refine wpAny_bind ?_
  show wpAny _ _ (forIn items _ _) _ _ s
  rw [← Array.forIn_toList]
  refine wpAny_forIn_list _ (fun rest r s' => r.1 = none ∧ s' = s ∧ ∀ v ∈ rest, (∃ i t, v = Value.int i t) ∨ ∃ x t, v = Value.str x t) _ ?_ ?_ _ _ ⟨rfl, rfl, itemM hi⟩
  · rintro v rest r s' ⟨hr, rfl, hall⟩
    have e1 : ofAClassStatement 7 v = pure false := by
      rcases hall v List.mem_cons_self with ⟨i, t, rfl⟩ | ⟨x, t, rfl⟩ <;> rfl
    rw [e1]
    refine wpAny_bind (wpAny_pure ?_)
    simp only [Bool.false_eq_true, if_false]
    exact wpAny_pure ⟨rfl, rfl, fun u hu => hall u (List.mem_cons_of_mem _ hu)⟩
  · rintro ⟨r1, r2⟩ s' ⟨hr, rfl, _⟩
    simp only at hr
    subst hr
    exact wpAny_pure h
theorem hashM {k : List Key} {b : Addr} {Q : Bool → Shared → Prop} (hk : IsM P w s.heap k b) (h : ∀ c, Q c s) : wpAny (model P w) A (hashByValue 8 (.ref b)) Q E s := by
  have hT := hk.typeIs
  obtain ⟨o, items, n, ho, _, hd, hi⟩ := hk
  unfold hashByValue
  refine wpAny_bind (wpAny_specialOf hT F.slot_tuple_hash.lookup ?_)
  show wpAny _ _ (seqItems? (.ref b) >>= _) _ _ s
  refine wpAny_bind (wpAny_seqItems ho hd ?_)
  refine wpAny_bind ?_
  show wpAny _ _ (forIn items _ _) _ _ s
  rw [← Array.forIn_toList]
  refine wpAny_forIn_list _ (fun rest r s' => r.1 = none ∧ s' = s ∧ ∀ v ∈ rest, (∃ i t, v = Value.int i t) ∨ ∃ x t, v = Value.str x t) _ ?_ ?_ _ _ ⟨rfl, rfl, itemM hi⟩
  · rintro v rest r s' ⟨hr, rfl, hall⟩
    rcases hall v List.mem_cons_self with ⟨i, t, rfl⟩ | ⟨x, t, rfl⟩
    · rw [show hashByValue 7 (.int i t) = pure true from rfl]
      refine wpAny_bind (wpAny_pure ?_)
      simp only [Bool.not_true, Bool.false_eq_true, if_false]
      exact wpAny_pure ⟨rfl, rfl, fun u hu => hall u (List.mem_cons_of_mem _ hu)⟩
    · rw [show hashByValue 7 (.str x t) = pure false from rfl]
      refine wpAny_bind (wpAny_pure ?_)
      simp only [Bool.not_false, if_true]
      exact wpAny_pure (wpAny_pure (h false))
  · rintro ⟨r1, r2⟩ s' ⟨hr, rfl, _⟩
    simp only at hr
    subst hr
    exact wpAny_pure (h true)
theorem seenM {k : List Key} {b : Addr} {Q : Bool → Shared → Prop} (hk : IsM P w s.heap k b) {ys : List Value} (hy : ∀ y ∈ ys, ∃ k' c, y = Value.ref c ∧ IsM P w s.heap k' c) (h : Q false s) :
    wpAny (model P w) A (searchCouldBeSeen (.ref b) ys) Q E s := by
  unfold searchCouldBeSeen
  refine wpAny_bind ?_
  refine wpAny_forIn_list _ (fun rest r s' => r.1 = none ∧ s' = s ∧ ∀ y ∈ rest, ∃ k' c, y = Value.ref c ∧ IsM P w s.heap k' c) _ ?_ ?_ _ _ ⟨rfl, rfl, hy⟩
  · rintro v rest r s' ⟨hr, rfl, hall⟩
    obtain ⟨k', c, rfl, hc⟩ := hall v List.mem_cons_self
    have more : ∀ y ∈ rest, ∃ k' c, y = Value.ref c ∧ IsM P w s'.heap k' c := fun u hu => hall u (List.mem_cons_of_mem _ hu)
    dsimp only
    by_cases hv : (b == c || (carriedByValue (.ref b) && carriedByValue (.ref c))) = true
    · exact wp_if_pos hv (wpAny_pure ⟨rfl, rfl, more⟩)
    · refine wp_if_neg hv ?_
      refine wpAny_bind (wpAny_eqIsQuiet_tuple hk ?_)
      simp only [Bool.not_true, Bool.false_eq_true, if_false]
      refine wpAny_bind (wpAny_eqIsQuiet_tuple hc ?_)
      simp only [Bool.not_true, Bool.false_eq_true, if_false]
      refine wpAny_bind (classM hk ?_)
      simp only [Bool.false_eq_true, if_false]
      refine wpAny_bind (classM hc ?_)
      simp only [Bool.false_eq_true, if_false]
      exact wpAny_pure ⟨rfl, rfl, more⟩
  · rintro ⟨r1, r2⟩ s' ⟨hr, rfl, _⟩
    simp only at hr
    subst hr
    exact wpAny_pure h
variable {a : Addr} {L : TL} {es : Array (Int × Value)} {ep : Nat} {t : SetTable} {h h' : Heap}
theorem rowM_size (e : es.toList = rowM P w L) : es.size = L.length := by
  have := congrArg List.length e
  unfold rowM at this
  rwa [Array.length_toList, List.length_map] at this
theorem SetM.fits (R : SetM P w h a L es ep t) : t.fits es.size = true := by
  have h1 := R.tab.sz
  rw [List.length_map] at h1
  have h2 := rowM_size R.rows
  have h3 := R.room
  unfold SetTable.fits SetTable.fill
  rw [R.tab.dm, Bool.and_eq_true, beq_iff_eq, decide_eq_true_eq]
  show t.place.size = es.size ∧ t.place.size + 0 ≤ t.mask
  omega
theorem rowM_at (e : es.toList = rowM P w L) {i : Nat} {p : Addr × List Key} (q : L[i]? = some p) : es[i]? = some (thM P w p.2, Value.ref p.1) := by
  rw [← Array.getElem?_toList, e]
  unfold rowM
  rw [List.getElem?_map, q]
  rfl
theorem stepM (t : SetTable) (hsh : Int) (c : Nat) : (nth t.mask (runAt t.mask (SetTable.bits hsh % (t.mask + 1)) (SetTable.bits hsh)) c).dummy = none := by
  have key : ∀ (n : Nat) (p : SetTable.Probe), p.dummy = none → (nth t.mask p n).dummy = none := by
    intro n
    induction n with
    | zero => exact fun _ h => h
    | succ n ih =>
      intro p h
      refine ih (adv t.mask p) ?_
      unfold adv
      split <;> exact h
  exact key c _ rfl
/-- a search ends: it finds an equal one, or the first free slot of the way -/
theorem SetM.find (R : SetM P w s.heap a L es ep t) {x : Addr} {k : List Key} (hx : IsM P w s.heap k x) (hu : A.units < cLine) {Z : Nat} (hZf : Z < 10 * SetTable.turns t.mask)
    (hZ : way t.mask (thM P w k) Z ∉ t.place.toList) (hZb : ∀ c, c < Z → way t.mask (thM P w k) c ∈ t.place.toList) {Q : SetFound → Shared → Prop}
    (hin : (∃ p ∈ L, p.2 = k) → Q (.there none) s) (hout : Q (.free (way t.mask (thM P w k) Z) false) s) :
    ∀ (f c : Nat) (stand : Option SetTable.Probe), stand.getD (t.probeStart (thM P w k)) = nth t.mask (runAt t.mask (SetTable.bits (thM P w k) % (t.mask + 1)) (SetTable.bits (thM P w k))) c → c ≤ Z → Z - c < f →
      wpAny (model P w) A (setSearchFrom a (.ref x) (thM P w k) true f stand) Q E s := by
  obtain ⟨o, ho, hex, hd⟩ := R.ob
  intro f
  induction f with
  | zero => intro c stand _ _ hf; exact absurd hf (Nat.not_lt_zero _)
  | succ f ih =>
    intro c stand hst hc hf
    rw [setSearchFrom_succ]
    refine wpAny_bind (wpAny_setState_of ho hd R.fits ?_)
    dsimp only
    have gw : ¬ t.gaveWay = true := by
      unfold SetTable.gaveWay
      rw [mask_odd R.tab.mok]
      decide
    refine wp_if_neg gw ?_
    try refine wpAny_bind (wpAny_pure ?_)
    generalize hr0 : runAt t.mask (SetTable.bits (thM P w k) % (t.mask + 1)) (SetTable.bits (thM P w k)) = r0 at hst
    have wy : ∀ q, way t.mask (thM P w k) q = (nth t.mask r0 q).j := fun q => by rw [← hr0]
    have sh : ∀ q, nth t.mask (nth t.mask r0 c) q = nth t.mask r0 (c + q) := fun q => (nth_add t.mask c _ q).symm
    have e1 : ∀ q, (nth t.mask (nth t.mask r0 c) q).j = way t.mask (thM P w k) (c + q) := fun q => by rw [sh, wy]
    have spec := go_spec t R.tab.ris R.tab.dm (fun i => (es[i]?.map (·.1)).getD 0) (thM P w k) (10 * SetTable.turns t.mask) (Z - c) (nth t.mask r0 c) (by rw [← hr0]; exact stepM t _ c) (by omega)
      (fun q hq => by rw [e1]; exact hZb (c + q) (by omega)) (by rw [e1, show c + (Z - c) = Z by omega]; exact hZ)
    rcases spec with ⟨q, i, hq, hi, _, _, hpr⟩ | ⟨_, hpr⟩
    · have hpr' : t.probe (fun i => (es[i]?.map (·.1)).getD 0) (thM P w k) (stand.getD (t.probeStart (thM P w k))) = some (.candidate (way t.mask (thM P w k) (c + q)) i (nth t.mask r0 (c + (q + 1)))) := by
        rw [hst, ← e1, ← sh]
        exact hpr
      rw [hpr']
      dsimp only
      rw [e1] at hi
      have hil : i < L.length := by
        have h1 := (List.getElem?_eq_some_iff.mp hi).1
        have h2 := R.tab.sz
        rw [List.length_map] at h2
        rw [Array.length_toList] at h1
        omega
      obtain ⟨p, hp⟩ : ∃ p, L[i]? = some p := ⟨L[i], List.getElem?_eq_getElem hil⟩
      have hpt := R.tup p (List.mem_of_getElem? hp)
      have go : wpAny (model P w) A (searchRest a (.ref x) (thM P w k) true f es t (way t.mask (thM P w k) (c + q)) i (nth t.mask r0 (c + (q + 1)))) Q E s := by
        unfold searchRest
        rw [rowM_at R.rows hp]
        dsimp only
        refine wpAny_bind (wpAny_holding (wpAny_eqBool_tuple hu hpt hx ?_))
        refine wpAny_bind (wpAny_setState_of ho hd R.fits ?_)
        dsimp only
        by_cases hkk : p.2 = k
        · exact wp_if_pos (by simp [hkk]) (wpAny_pure (hin ⟨p, List.mem_of_getElem? hp, hkk⟩))
        · refine wp_if_neg (by simp [hkk]) ?_
          try refine wpAny_bind (wpAny_pure ?_)
          rw [sameMem]
          dsimp only
          have hsl : t.slot (way t.mask (thM P w k) (c + q)) = .live i := slot_live R.tab.ris hi
          simp only [if_true, hsl, rowM_at R.rows hp]
          refine wpAny_bind (wpAny_isSame_ref_self (wpAny_bind (wpAny_pure ?_)))
          simp only [if_true]
          refine wp_if_neg (by simp [hkk]) ?_
          exact ih (c + (q + 1)) _ (by rw [hr0]; rfl) (by omega) (by omega)
      by_cases hl : t.led = true
      · refine wp_if_neg (by simp [hl]) ?_
        try refine wpAny_bind (wpAny_pure ?_)
        exact go
      · refine wp_if_pos (by simp [hl]) ?_
        refine wpAny_bind (seenM hx (fun y hy => ?_) ?_)
        · obtain ⟨e, he, ee⟩ := List.mem_map.mp hy
          have he1 : e ∈ es ∧ e.1 = thM P w k := by simpa using he
          have he2 : e ∈ es.toList := by simpa using he1.1
          rw [R.rows] at he2
          obtain ⟨p2, hp2, e2⟩ := List.mem_map.mp he2
          exact ⟨p2.2, p2.1, by rw [← ee, ← e2], R.tup p2 hp2⟩
        · refine wp_if_neg (by decide) ?_
          try refine wpAny_bind (wpAny_pure ?_)
          exact go
    · have hpr' : t.probe (fun i => (es[i]?.map (·.1)).getD 0) (thM P w k) (stand.getD (t.probeStart (thM P w k))) = some (.empty (way t.mask (thM P w k) Z) none) := by
        have e2 : way t.mask (thM P w k) Z = (nth t.mask (nth t.mask r0 c) (Z - c)).j := by rw [e1, show c + (Z - c) = Z by omega]
        rw [hst, e2]
        exact hpr
      rw [hpr']
      dsimp only
      exact wpAny_pure hout
theorem SetM.search (R : SetM P w s.heap a L es ep t) {x : Addr} {k : List Key} (hx : IsM P w s.heap k x) (hu : A.units < cLine) {Q : SetFound → Shared → Prop} (hin : (∃ p ∈ L, p.2 = k) → Q (.there none) s)
    (hout : ∀ Z, way t.mask (thM P w k) Z ∉ t.place.toList → (∀ c, c < Z → way t.mask (thM P w k) c ∈ t.place.toList) → Q (.free (way t.mask (thM P w k) Z) false) s) :
    wpAny (model P w) A (setSearch a (.ref x) (thM P w k) true) Q E s := by
  have hroom := R.room
  obtain ⟨Z, hZf, hZ, hZb⟩ := R.tab.first (by rw [List.length_map]; omega) (thM P w k)
  have small : 10 * SetTable.turns t.mask ≤ 1420 := by
    unfold SetTable.turns
    rcases R.tab.mok with e | e | e <;> omega
  unfold setSearch
  exact R.find hx hu hZf hZ hZb hin (hout Z hZ hZb) 100000 0 none rfl (Nat.zero_le _) (by omega)
end
end Fm
namespace Fm
open PySem PySem.Spec PyProof.Rows L2
section
variable {P : Program} {w : World} {A : Around} {E : Value → Shared → Prop} {s : Shared} {a : Addr} {L : TL} {es : Array (Int × Value)} {ep : Nat} {t : SetTable}
theorem isM_same {h h' : Heap} {k : List Key} {b : Addr} {o : Obj} (hb : IsM P w h k b) (ho : h.get? a = some o) (hd : o.data = .set es ep t) (sb : Heap.SameBut a h h') : IsM P w h' k b := by
  obtain ⟨o', items, n, ho', hc, hd', hi⟩ := hb
  refine ⟨o', items, n, (sb.2 b fun z => ?_).trans ho', hc, hd', hi⟩
  subst z
  rw [ho] at ho'
  cases ho'
  rw [hd] at hd'
  cases hd'
theorem isM_keep {h h' : Heap} {k : List Key} {b : Addr} (x : IsM P w h k b) (hk : ∀ c o, h.get? c = some o → h'.get? c = some o) : IsM P w h' k b := by
  obtain ⟨o, items, n, ho, r⟩ := x
  exact ⟨o, items, n, hk b o ho, r⟩
/-- rows taken in another order -/
theorem rowM_order (e : es.toList = rowM P w L) (order : List Nat) (hp : order.Perm (List.range L.length)) :
    ∃ L2, order.filterMap (fun i => es[i]?) = rowM P w L2 ∧ L2.Perm L ∧ (L2.map fun p => thM P w p.2) = order.map fun i => (es.map (·.1)).getD i 0 := by
  have one : ∀ l : List Nat, (∀ i ∈ l, i < L.length) → l.filterMap (fun i => es[i]?) = rowM P w (l.filterMap fun i => L[i]?) ∧ ((l.filterMap fun i => L[i]?).map fun p => thM P w p.2) = l.map fun i => (es.map (·.1)).getD i 0 := by
    intro l
    induction l with
    | nil => intro _; exact ⟨rfl, rfl⟩
    | cons i l ih =>
      intro hl
      have hi := hl i List.mem_cons_self
      have hL : L[i]? = some L[i] := List.getElem?_eq_getElem hi
      have hE := rowM_at e hL
      obtain ⟨e1, e2⟩ := ih fun j hj => hl j (List.mem_cons_of_mem _ hj)
      have hg : (es.map (·.1)).getD i 0 = thM P w (L[i]).2 := by
        have q : (es.map (·.1))[i]? = some (thM P w (L[i]).2) := by rw [Array.getElem?_map, hE]; rfl
        simp [Array.getD_eq_getD_getElem?, q]
      constructor
      · rw [List.filterMap_cons_some hE, List.filterMap_cons_some hL, e1]; rfl
      · rw [List.filterMap_cons_some hL, List.map_cons, List.map_cons, e2, hg]
  obtain ⟨e1, e2⟩ := one order fun i hi => List.mem_range.mp (hp.mem_iff.mp hi)
  refine ⟨_, e1, ?_, e2⟩
  have all : ∀ n, n ≤ L.length → (List.range n).filterMap (fun i => L[i]?) = L.take n := by
    intro n
    induction n with
    | zero => intro _; rfl
    | succ n ih =>
      intro hn
      rw [List.range_succ, List.filterMap_append, ih (by omega), List.take_add_one, List.getElem?_eq_getElem (show n < L.length by omega), List.filterMap_cons_some (List.getElem?_eq_getElem (show n < L.length by omega))]
      rfl
  have := hp.filterMap fun i => L[i]?
  rw [all L.length (Nat.le_refl _), List.take_length] at this
  exact this
/-- laid anew in a larger table -/
theorem relayM {o : Obj} (ho : s.heap.get? a = some o) (hex : o.ExactSet) (hd : o.data = .set es ep t) (hrows : es.toList = rowM P w L) (hsz : t.place.size = es.size) (hdm : t.dummies = #[]) (hfl : es.size ≤ t.mask)
    (tup : ∀ p ∈ L, IsM P w s.heap p.2 p.1) (ld : w.params.followText "set-order" = true ∨ t.led = true) (few : L.length < 64) {wanted M : Nat}
    (hw : SetTable.sizeAbove wanted - 1 = M) (hM : MaskOk M) (hw2 : SetTable.sizeAbove wanted ≤ 128) (hn : L.length * 5 < M * 3) {Q : Unit → Shared → Prop}
    (hQ : ∀ h' L' es' ep' t', Heap.SameBut a s.heap h' → SetM P w h' a L' es' ep' t' → L'.Perm L → Q () { s with heap := h' }) : wpAny (model P w) A (setRelay a wanted) Q E s := by
  have hsl := rowM_size hrows
  have hfits : t.fits es.size = true := by
    unfold SetTable.fits SetTable.fill
    rw [hdm, Bool.and_eq_true, beq_iff_eq, decide_eq_true_eq]
    show t.place.size = es.size ∧ t.place.size + 0 ≤ t.mask
    omega
  obtain ⟨t', order, e, hp, T, em, el, _, _⟩ := relaid_ok t (hs := es.map (·.1)) (wanted := wanted) hw hM (by rw [Array.size_map, hsl]; omega)
  rw [Array.size_map, hsl] at hp
  obtain ⟨L2, r1, r2, r3⟩ := rowM_order hrows order.toList hp
  rw [← r3] at T
  have r1' : (order.filterMap (es[·]?)).toList = rowM P w L2 := by first | (rw [Array.toList_filterMap]; exact r1) | simpa using r1
  have hs2 : (order.filterMap (es[·]?)).size = es.size := by rw [rowM_size r1', r2.length_eq, hsl]
  rw [setRelay_eq]
  refine wpAny_bind (wpAny_setState_of ho hd hfits ?_)
  dsimp only
  refine wp_if_neg (by rw [sizeLine_eq]; omega) ?_
  try refine wpAny_bind (wpAny_pure ?_)
  rw [e]
  dsimp only
  refine wpAny_bind ?_
  refine wp_if_neg (by rw [hs2]; simp) ?_
  try refine wpAny_bind (wpAny_pure ?_)
  refine wpAny_pure ?_
  dsimp only
  refine wpAny_storeSet_of ho hd ?_ (by rw [hs2, hsl, sizeLine_eq]; omega)
  have sb : Heap.SameBut a s.heap (s.heap.update a (Obj.putSet (order.filterMap (es[·]?)) t')) := Heap.SameBut.update ..
  exact hQ _ L2 _ (ep + 1) t' sb ⟨⟨_, store_at ho hd, ⟨hex.1, hex.2.1, hex.2.2⟩, rfl⟩, r1', T, fun p hpm => isM_same (tup p (r2.mem_iff.mp hpm)) ho hd sb, by rw [el]; exact ld, by rw [r2.length_eq, em]; exact hn, by rw [r2.length_eq]; exact few⟩ r2
/-- adding one -/
theorem SetM.add (R : SetM P w s.heap a L es ep t) {x : Addr} {k : List Key} (hx : IsM P w s.heap k x) (hu : A.units < cLine) (hfew : L.length + 1 < 64) {Q : Bool → Shared → Prop}
    (hQ : ∀ b h' L' es' ep' t', Heap.SameBut a s.heap h' → SetM P w h' a L' es' ep' t' → (∀ p ∈ L', p = (x, k) ∨ p ∈ L) → L'.length ≤ L.length + 1 → ((∀ p ∈ L, p ∈ L') ∧ ∃ p ∈ L', p.2 = k) → Q b { s with heap := h' }) :
    wpAny (model P w) A (setAddHashed a (.ref x) (thM P w k)) Q E s := by
  obtain ⟨o, ho, hex, hd⟩ := R.ob
  have hsl := rowM_size R.rows
  have hroom := R.room
  unfold setAddHashed
  refine wpAny_holding ?_
  rw [show (100000 : Nat) = 99999 + 1 from rfl, setAddHashedIn_succ]
  refine wpAny_bind (wpAny_setState_of ho hd R.fits ?_)
  dsimp only
  refine wp_if_neg (by simp [byScan, Value.scannable]) ?_
  try refine wpAny_bind (wpAny_pure ?_)
  refine wpAny_bind (R.search hx hu (fun hin => ?_) fun Z hZ hb => ?_)
  · dsimp only
    exact wpAny_pure (hQ false s.heap L es ep t (Heap.SameBut.refl a s.heap) R (fun p hp => .inr hp) (Nat.le_succ _) ⟨fun _ h => h, hin⟩)
  · dsimp only
    refine wpAny_bind (wpAny_setState_of ho hd R.fits ?_)
    dsimp only
    obtain ⟨q1, q2, q3, q4, q5, _, _, _, q9⟩ := R.tab.put hZ hb
    generalize t.put (way t.mask (thM P w k) Z) = pt at q1 q3 q4 q5 q9 ⊢
    obtain ⟨t1, p⟩ := pt
    dsimp only at q1 q3 q4 q5 q9 ⊢
    subst q1
    -- whichever the table's mark becomes
    have main : ∀ t2 : SetTable, TabOk t2 ((L.map fun p => thM P w p.2).take (SetTable.below t.place (way t.mask (thM P w k) Z)) ++ thM P w k :: (L.map fun p => thM P w p.2).drop (SetTable.below t.place (way t.mask (thM P w k) Z))) → t2.mask = t.mask → t2.led = t.led → t2.fill = L.length + 1 →
        wpAny (model P w) A (do
          storeSet a (SetTable.insertAt es (SetTable.below t.place (way t.mask (thM P w k) Z)) (thM P w k, Value.ref x)) t2
          if !false && t2.tooFull then setRelay a (SetTable.grown (es.size + 1))
          return true) Q E s := by
      intro t2 q3 q4 q5 q9
      have hin : (SetTable.insertAt es (SetTable.below t.place (way t.mask (thM P w k) Z)) (thM P w k, Value.ref x)).toList = rowM P w (L.take (SetTable.below t.place (way t.mask (thM P w k) Z)) ++ (x, k) :: L.drop (SetTable.below t.place (way t.mask (thM P w k) Z))) := by
        rw [SetTable.toList_insertAt, R.rows]
        unfold rowM
        rw [List.map_append, List.map_cons, List.map_take, List.map_drop]
      generalize SetTable.below t.place (way t.mask (thM P w k) Z) = p at q2 q3 hin ⊢
      have pm := put_perm L p (x, k)
      have hlen : (L.take p ++ (x, k) :: L.drop p).length = L.length + 1 := pm.length_eq
      have hhs : (L.take p ++ (x, k) :: L.drop p).map (fun p => thM P w p.2) = (L.map fun p => thM P w p.2).take p ++ thM P w k :: (L.map fun p => thM P w p.2).drop p := by
        rw [List.map_append, List.map_cons, List.map_take, List.map_drop]
      rw [← hhs] at q3
      have hes : (SetTable.insertAt es p (thM P w k, Value.ref x)).size = L.length + 1 := by rw [rowM_size hin, hlen]
      generalize SetTable.insertAt es p (thM P w k, Value.ref x) = es1 at hin hes ⊢
      generalize L.take p ++ (x, k) :: L.drop p = L1 at pm hlen q3 hin
      refine wpAny_bind (wpAny_storeSet_of ho hd ?_ (by rw [hes, sizeLine_eq]; omega))
      have sb : Heap.SameBut a s.heap (s.heap.update a (Obj.putSet es1 t2)) := Heap.SameBut.update ..
      have ho1 := store_at (es' := es1) (t' := t2) ho hd
      generalize s.heap.update a (Obj.putSet es1 t2) = h1 at sb ho1 ⊢
      have mem1 : ∀ p ∈ L1, p = (x, k) ∨ p ∈ L := fun p hp => List.mem_cons.mp (pm.mem_iff.mp hp)
      have cov1 : (∀ p ∈ L, p ∈ L1) ∧ ∃ p ∈ L1, p.2 = k := ⟨fun p hp => pm.mem_iff.mpr (List.mem_cons_of_mem _ hp), (x, k), pm.mem_iff.mpr List.mem_cons_self, rfl⟩
      have tup1 : ∀ p ∈ L1, IsM P w h1 p.2 p.1 := fun p hp => by
        rcases mem1 p hp with e | hp
        · rw [e]; exact isM_same hx ho hd sb
        · exact isM_same (R.tup p hp) ho hd sb
      have ld1 : w.params.followText "set-order" = true ∨ t2.led = true := by rw [q5]; exact R.led
      by_cases hf : t2.tooFull = true
      · first
          | (refine wpAny_bind ?_; refine wp_if_pos (by simp [hf]) ?_)
          | (refine wp_if_pos (by simp [hf]) ?_; refine wpAny_bind ?_)
        have hfull : (L.length + 1) * 5 ≥ t2.mask * 3 := by
          have h := hf
          unfold SetTable.tooFull at h
          rw [decide_eq_true_eq, q9] at h
          exact h
        rw [hsl]
        have hsz1 : t2.place.size = es1.size := by
          have h := q3.sz
          rw [List.length_map, hlen] at h
          rw [h, hes]
        have cases2 : (t.mask = 7 ∧ L.length = 4) ∨ (t.mask = 31 ∧ L.length = 18) := by
          rcases R.tab.mok with e | e | e
          · left; rw [q4, e] at hfull; rw [e] at hroom; exact ⟨e, by omega⟩
          · right; rw [q4, e] at hfull; rw [e] at hroom; exact ⟨e, by omega⟩
          · exfalso; rw [q4, e] at hfull; omega
        have go : ∀ M, SetTable.sizeAbove (SetTable.grown (L.length + 1)) - 1 = M → MaskOk M → SetTable.sizeAbove (SetTable.grown (L.length + 1)) ≤ 128 → (L.length + 1) * 5 < M * 3 →
            wpAny (model P w) A (setRelay a (SetTable.grown (L.length + 1))) (fun _ s' => wpAny (model P w) A (pure true) Q E s') E { s with heap := h1 } := fun M h1' h2' h3' h4' => by
          refine relayM (s := { s with heap := h1 }) ho1 ⟨hex.1, hex.2.1, hex.2.2⟩ rfl hin hsz1 q3.dm (by rw [hes, q4]; rcases cases2 with ⟨e, e2⟩ | ⟨e, e2⟩ <;> omega) tup1 ld1 (by rw [hlen]; exact hfew) h1' h2' h3' (by rw [hlen]; exact h4') ?_
          intro h2 L2 es2 ep2 t3 sb2 R2 pm2
          exact wpAny_pure (hQ true h2 L2 es2 ep2 t3 (sb.trans sb2) R2 (fun p hp => mem1 p (pm2.mem_iff.mp hp)) (by rw [pm2.length_eq, hlen]; exact Nat.le_refl _) ⟨fun p hp => pm2.mem_iff.mpr (cov1.1 p hp), cov1.2.elim fun p hp => ⟨p, pm2.mem_iff.mpr hp.1, hp.2⟩⟩)
        rcases cases2 with ⟨_, e2⟩ | ⟨_, e2⟩
        · exact go 31 (by rw [e2, size_20]) (.inr (.inl rfl)) (by rw [e2, size_20]; decide) (by omega)
        · exact go 127 (by rw [e2, size_76]) (.inr (.inr rfl)) (by rw [e2, size_76]; decide) (by omega)
      · first
          | refine wp_if_neg (by simp [hf]) ?_
          | (refine wpAny_bind ?_; refine wp_if_neg (by simp [hf]) ?_; refine wpAny_pure ?_)
        refine wpAny_pure (hQ true h1 L1 es1 (ep + 1) t2 sb ⟨⟨_, ho1, ⟨hex.1, hex.2.1, hex.2.2⟩, rfl⟩, hin, q3, tup1, ld1, ?_, by rw [hlen]; exact hfew⟩ mem1 (by rw [hlen]; exact Nat.le_refl _) cov1)
        have h := hf
        unfold SetTable.tooFull at h
        rw [decide_eq_true_eq, q9] at h
        rw [hlen]
        omega
    rw [List.length_map] at q9
    by_cases hp1 : t1.plain = true
    · first
        | (refine wpAny_bind ?_; refine wp_if_pos hp1 ?_; refine hashM hx fun c => ?_)
        | refine wp_if_pos hp1 (wpAny_bind (hashM hx fun c => ?_))
      cases c with
      | true =>
        simp only [if_true]
        exact main t1 q3 q4 q5 q9
      | false =>
        simp only [Bool.false_eq_true, if_false]
        exact main { t1 with plain := false } ⟨q3.ris, q3.dm, q3.sz, q3.mok, q3.bd, q3.reach⟩ q4 q5 q9
    · first
        | (refine wpAny_bind ?_; refine wp_if_neg hp1 ?_; refine wpAny_pure ?_)
        | refine wp_if_neg hp1 (wpAny_bind (wpAny_pure ?_))
      simp only [if_true]
      exact main t1 q3 q4 q5 q9
end
end Fm
namespace Fm
open PySem PySem.Spec PyProof.Rows L2
theorem perm_lift {α β : Type} (f : α → β) {out m : List β} (h : out.Perm m) : ∀ l : List α, m = l.map f → ∃ l' : List α, out = l'.map f ∧ l'.Perm l := by
  induction h with
  | nil =>
    intro l e
    cases l with
    | nil => exact ⟨[], rfl, .nil⟩
    | cons a l => cases e
  | cons x _ ih =>
    intro l e
    cases l with
    | nil => cases e
    | cons a l =>
      injection e with e1 e2
      obtain ⟨l', h1, h2⟩ := ih l e2
      exact ⟨a :: l', by rw [h1, e1]; rfl, h2.cons a⟩
  | swap x y t =>
    intro l e
    cases l with
    | nil => cases e
    | cons a l =>
      cases l with
      | nil => cases e
      | cons b l =>
        injection e with e1 e2
        injection e2 with e2 e3
        exact ⟨b :: a :: l, by rw [e1, e2, e3]; rfl, .swap a b l⟩
  | trans _ _ ih1 ih2 =>
    intro l e
    obtain ⟨l1, h1, h2⟩ := ih2 l e
    obtain ⟨l2, h3, h4⟩ := ih1 l1 h1
    exact ⟨l2, h3, h4.trans h2⟩
/-- what stands at each place, an int or a text -/
abbrev shOf (k : List Key) : List Bool := k.map Sum.isRight
theorem itemsSh {P : Program} {w : World} (sh : Nat → Bool) : ∀ (k : List Key) (vs : List Value) (i : Nat), ItemsAre (mixKind P w) k vs → (∀ j b, (shOf k)[j]? = some b → sh (i + j) = b) → ∃ l, tupItems sh i vs = some l
  | [], _, i, .nil, _ => ⟨[], rfl⟩
  | c :: k, v :: vs, i, .cons h t, hs => by
    obtain ⟨l, hl⟩ := itemsSh sh k vs (i + 1) t fun j b e => by
      have := hs (j + 1) b e
      rwa [show i + (j + 1) = i + 1 + j by omega] at this
    have h0 := hs 0 _ rfl
    rcases keyIs_shape h with ⟨n, tk, rfl, rfl⟩ | ⟨x, tk, rfl, rfl⟩
    · refine ⟨Sum.inl n :: l, ?_⟩
      show (if sh i = true then none else (tupItems sh (i + 1) vs).map (Sum.inl n :: ·)) = some _
      rw [if_neg (by rw [show sh i = false from h0]; exact Bool.false_ne_true), hl]
      rfl
    · refine ⟨Sum.inr x.cps.toList :: l, ?_⟩
      show (if sh i = true then (tupItems sh (i + 1) vs).map (Sum.inr x.cps.toList :: ·) else none) = some _
      rw [if_pos (show sh i = true from h0), hl]
      rfl
theorem tupC_of {P : Program} {w : World} {h : Heap} {sh : List Bool} {k : List Key} {b : Addr} (x : IsM P w h k b) (hs : shOf k = sh) : ∃ l, G.tupKeyC h (fun i => sh.getD i false) (.ref b) = some l := by
  obtain ⟨o, items, n, ho, hc, hd, hi⟩ := x
  obtain ⟨l, hl⟩ := itemsSh (fun i => sh.getD i false) k items.toList 0 hi fun j c e => by
    rw [hs] at e
    rw [Nat.zero_add]
    show sh.getD j false = c
    rw [List.getD_eq_getElem?_getD, e]; rfl
  refine ⟨l, ?_⟩
  unfold G.tupKeyC
  have e1 : G.isTupObj h (.ref b) = true := by
    show (match h.get? b with | some o => (match o.cls with | .type n => n == "tuple" | _ => false) | none => false) = true
    rw [ho]
    show (match o.cls with | .type n => n == "tuple" | _ => false) = true
    rw [hc]; decide
  rw [if_pos e1]
  show (match h.get? b with | some o => (match o.data with | .seq xs _ => tupItems (fun i => sh.getD i false) 0 xs.toList | _ => none) | none => none) = some l
  rw [ho]
  show (match o.data with | .seq xs _ => tupItems (fun i => sh.getD i false) 0 xs.toList | _ => none) = some l
  rw [hd]
  exact hl
theorem tupsOf_of {P : Program} {w : World} {h : Heap} {sh : List Bool} (hne : sh ≠ []) : ∀ (ps : TL), (∀ p ∈ ps, IsM P w h p.2 p.1 ∧ shOf p.2 = sh) → ∃ fs, TupsOf h (fun i => sh.getD i false) (ps.map fun p => Value.ref p.1) fs
  | [], _ => ⟨[], .nil⟩
  | p :: ps, hp => by
    obtain ⟨fs, hf⟩ := tupsOf_of hne ps fun q hq => hp q (List.mem_cons_of_mem _ hq)
    obtain ⟨⟨o, items, n, ho, hc, hd, hi⟩, hs⟩ := hp p List.mem_cons_self
    cases hk : p.2 with
    | nil => rw [hk] at hs; exact absurd hs.symm hne
    | cons c k =>
      rw [hk] at hi hs
      cases hit : items.toList with
      | nil => rw [hit] at hi; cases hi
      | cons f vs =>
        rw [hit] at hi
        have h0 : sh.getD 0 false = c.isRight := by rw [← hs]; rfl
        refine ⟨f :: fs, .cons ⟨p.1, o, items, n, rfl, ho, hc, hd, ?_, fun z => ?_, fun z => ?_⟩ hf⟩
        · rw [← Array.getElem?_toList, hit]; rfl
        · cases hi with
          | cons h1 _ =>
            rcases keyIs_shape h1 with ⟨i, t, rfl, rfl⟩ | ⟨x, t, rfl, rfl⟩
            · exact ⟨i, t, rfl⟩
            · have z' := h0.symm.trans z; cases z'
        · cases hi with
          | cons h1 _ =>
            rcases keyIs_shape h1 with ⟨i, t, rfl, rfl⟩ | ⟨x, t, rfl, rfl⟩
            · have z' := h0.symm.trans z; cases z'
            · exact ⟨x, t, rfl⟩
section
variable {X : Cx} {K : PySem.W.Frag} {w : World} {P : Program}
theorem Inv.isM {pins : List (Addr × Obj)} {σ : L2.St} {H : Hp} {s : Shared} {b : Addr} {k : List Key} (I : Inv X pins σ H s) (h : SqT X.K H b (k.map kV)) : IsM X.prog X.w s.heap k b := by
  obtain ⟨its, r, ⟨o, ho, hc, n, hd⟩, _⟩ := I.tuple h
  exact ⟨o, its.toArray, n, ho, hc, hd, by simpa using items_are r⟩
theorem refs_are : ∀ {ps : TL} {us : List Value}, Vals (ps.map fun p => V.ref p.1) us → us = ps.map fun p => Value.ref p.1
  | [], _, .nil => rfl
  | p :: ps, _, .cons r t => by
    cases r
    rw [refs_are t]; rfl
theorem vals_refs : ∀ ps : TL, Vals (ps.map fun p => V.ref p.1) (ps.map fun p => Value.ref p.1)
  | [] => .nil
  | p :: ps => .cons rfl (vals_refs ps)
/-- sorted(xs), xs a list of tuples of ints and texts, all of one form -/
def rSortTL (K : PySem.W.Frag) : List V → Hp → VK → Prop := fun xs H Q => ∃ (l : Addr) (ps : TL) (sh : List Bool), xs = [V.ref l] ∧ SqL K H l (ps.map fun p => V.ref p.1) ∧ (∀ p ∈ ps, SqT K H p.1 (p.2.map kV) ∧ shOf p.2 = sh) ∧ sh ≠ [] ∧
  ∀ (ps' : TL) (p : Addr), ps'.Perm ps → H p = none → Q (.ref p) (upd H p (.lst (ps'.map fun q => V.ref q.1)))
theorem pairs_perm {vs : List Value} {st' : Array Keyed} (h : st'.Perm (pairsOf vs)) : (st'.map (·.2)).toList.Perm vs := by
  have h1 : st'.toList.Perm (pairsOf vs).toList := h.toList
  rw [pairsOf_toList] at h1
  have h2 := h1.map Prod.snd
  rw [List.map_snd_zip (Nat.le_refl _)] at h2
  rw [Array.toList_map]
  exact h2
theorem kc_sortedTL (h : X.K = K) : CallR X (.builtin "sorted") (rSortTL K) := by
  subst h
  intro pins s σ H xs us Q I r h
  obtain ⟨l, ps, sh, rfl, hl, hp, hne, q⟩ := h
  rw [Vals.ref1 r]
  obtain ⟨its, rv, pl, hz⟩ := I.list hl
  have e := refs_are rv
  have hm : ∀ p ∈ ps, IsM X.prog X.w s.heap p.2 p.1 ∧ shOf p.2 = sh := fun p hpm => ⟨Inv.isM I (hp p hpm).1, (hp p hpm).2⟩
  obtain ⟨fs, hf⟩ := tupsOf_of hne ps hm
  subst e
  refine G.sorted_tups pl.isList hf (fun v hv => ?_) (by rw [List.length_map]; rw [List.length_map] at hz; exact hz) fun st' h1 _ _ => ?_
  · obtain ⟨p, hpm, rfl⟩ := List.mem_map.mp hv
    exact tupC_of (hm p hpm).1 (hm p hpm).2
  · have pm := pairs_perm h1
    generalize (arrOf st').map (·.2) = out at pm
    obtain ⟨ps', e', pm'⟩ := perm_lift (fun p : Addr × List Key => Value.ref p.1) pm ps rfl
    obtain ⟨ep, he'⟩ := PyProof.Rows.sortedAll_at s.heap (ps.map fun p => Value.ref p.1) out
    have hlen : (ps'.map fun q => V.ref q.1).length ≤ sizeLine := by rw [List.length_map, pm'.length_eq]; rw [List.length_map] at hz; exact hz
    exact ⟨.ref _, upd H (s.heap.objs.size + 1) (.lst (ps'.map fun q => V.ref q.1)), I.laid (t' := s.toks) (fun _ _ => PyProof.Rows.sortedAll_old) (Nat.le_succ _) ⟨hlen, out.toList, ep, by rw [e']; exact vals_refs ps', he'⟩, rfl, q ps' _ pm' (I.hok.fresh (Nat.le_succ _))⟩
end
end Fm
namespace Fm
open PySem PySem.Spec PyProof.Rows L2
section
variable {P : Program} {w : World} {A : Around} {E : Value → Shared → Prop} {s : Shared}
theorem setM_bare {h : Heap} {a : Addr} (e : h.get? a = some (bareSet w)) : SetM P w h a [] #[] 0 (.fresh 0 0 (!w.params.followText "set-order")) where
  ob := ⟨_, e, ⟨rfl, rfl, rfl⟩, rfl⟩
  rows := rfl
  tab := ⟨List.Pairwise.nil, rfl, rfl, .inl rfl, fun x hx => (by cases hx), fun i h j hi => (by simp at hi)⟩
  tup := fun p hp => (by cases hp)
  led := by
    show _ ∨ (!w.params.followText "set-order") = true
    cases w.params.followText "set-order"
    · exact .inr rfl
    · exact .inl rfl
  room := by
    show 0 * 5 < 7 * 3
    decide
  few := by decide
theorem SetM.keep {h h' : Heap} {a : Addr} {L : TL} {es : Array (Int × Value)} {ep : Nat} {t : SetTable} (R : SetM P w h a L es ep t) (ha : ∀ o, h.get? a = some o → h'.get? a = some o) (ht : ∀ p ∈ L, IsM P w h' p.2 p.1) : SetM P w h' a L es ep t := by
  obtain ⟨o, ho, r⟩ := R.ob
  exact ⟨⟨o, ha o ho, r⟩, R.rows, R.tab, ht, R.led, R.room, R.few⟩
def GotM (P : Program) (w : World) (S : Addr) (ks : TL) (i : Nat) (h : Heap) : Prop := ∃ L es ep t, SetM P w h S L es ep t ∧ (∀ p ∈ L, p ∈ ks) ∧ L.length ≤ i ∧ ∀ p ∈ ks.take i, ∃ q ∈ L, q.2 = p.2
theorem adds_tups {S : Addr} {h0 : Heap} {items : Array Value} {ks : TL} (hit : ∀ (i : Nat) (v : Value), items[i]? = some v → ∃ p, ks[i]? = some p ∧ v = Value.ref p.1) (hk : ∀ p ∈ ks, IsM P w h0 p.2 p.1) (hfew : items.size < 64) (hu : A.units < cLine) :
    Adds P w A S h0 items.size (fun i v => items[i]? = some v) (GotM P w S ks) where
  still := fun ⟨L, es, ep, t, R, sub, len, cov⟩ ha kp => ⟨L, es, ep, t, R.keep ha fun p hp => isM_keep (hk p (sub p hp)) kp, sub, len, cov⟩
  add := by
    intro i v s E Q hi hv hI kp hQ
    obtain ⟨L, es, ep, t, R, sub, len, cov⟩ := hI
    obtain ⟨p, hpi, rfl⟩ := hit i v hv
    have hp := List.mem_of_getElem? hpi
    have hx : IsM P w s.heap p.2 p.1 := isM_keep (hk p hp) kp
    unfold setAdd
    refine wpAny_holding ?_
    refine wpAny_bind (wpAny_pyHash_tuple hu hx ?_)
    refine SetM.add (s := { s with toks := s.toks + (p.2.length + 1) }) R hx hu (by omega) fun b h' L' es' ep' t' sb R' mem len' cov' => ?_
    refine hQ b h' _ sb ⟨L', es', ep', t', R', fun q hq => ?_, by omega, fun q hq => ?_⟩ (Nat.le_add_right _ _)
    · rcases mem q hq with e | hq
      · rw [e]; exact hp
      · exact sub q hq
    · rw [List.take_add_one, hpi, List.mem_append] at hq
      rcases hq with hq | hq
      · obtain ⟨q', h1, h2⟩ := cov q hq
        exact ⟨q', cov'.1 q' h1, h2⟩
      · obtain ⟨q', h1, h2⟩ := cov'.2
        exact ⟨q', h1, by rw [List.mem_singleton.mp hq]; exact h2⟩
/-- the set at a, without the tuples themselves -/
def SetM0 (P : Program) (w : World) (h : Heap) (a : Addr) (L : TL) : Prop := ∃ (es : Array (Int × Value)) (ep : Nat) (t : SetTable), (∃ o, h.get? a = some o ∧ o.ExactSet ∧ o.data = .set es ep t) ∧ es.toList = rowM P w L ∧ TabOk t (L.map fun p => thM P w p.2) ∧
    (w.params.followText "set-order" = true ∨ t.led = true) ∧ L.length * 5 < t.mask * 3 ∧ L.length < 64
def SetMO (P : Program) (w : World) (a : Addr) (L : TL) : HO := .ext fun h => SetM0 P w h a L
theorem setMO_new {H : Hp} {h : Heap} {a : Addr} {L : TL} (R : SetM0 P w h a L) : ObjOk P w H h a (SetMO P w a L) := by
  have ⟨es, ep, t, ⟨o, ho, r⟩, q⟩ := R
  refine ⟨R, ⟨o, ho⟩, fun h1 h2 p k => ?_⟩
  obtain ⟨es', ep', t', ⟨o', ho', r'⟩, q'⟩ := p
  exact ⟨es', ep', t', ⟨o', k o' ho', r'⟩, q'⟩
/-- sorted(set) -/
theorem sorted_setM {a : Addr} {L : TL} {es : Array (Int × Value)} {ep : Nat} {t : SetTable} {sh : List Bool} {Q : Value → Shared → Prop} (R : SetM P w s.heap a L es ep t) (hh : A.handled = none) (hne : sh ≠ []) (hs : ∀ p ∈ L, shOf p.2 = sh)
    (hQ : ∀ s' p (out : Array Value) (c : Nat) (L' : TL), (∀ b o, s.heap.get? b = some o → s'.heap.get? b = some o) → s'.gens = s.gens → s'.os = s.os → s.heap.objs.size ≤ p →
      s'.heap.get? p = some (seqObj "list" out c) → out.toList = L'.map (fun q => Value.ref q.1) → L'.Perm L → Q (.ref p) s') :
    wpAny (model P w) A (call (.builtin "sorted") [.ref a]) Q E s := by
  obtain ⟨o, ho, hex, hd⟩ := R.ob
  have hsz := rowM_size R.rows
  have hfew := R.few
  refine Calls.call_function_entry kind_sorted plain_sorted entry_sorted (args_sorted1 _) ?_
  unfold Builtin.«sorted»
  refine wpAny_bind (m := checkCount "sorted" 1 1 _) (wpAny_pure ?_)
  refine wpAny_bind (collect_set (A := A.in1) hh ⟨o, ho, hex.1, hd⟩ R.fits (by unfold scanBound; omega) R.tab.ris R.led fun s1 vs k1 hz g1 o1 pm => ?_)
  have hes : es.toList.map (·.2) = L.map fun q => Value.ref q.1 := by
    rw [R.rows]
    unfold rowM
    rw [List.map_map]; rfl
  rw [hes] at pm
  obtain ⟨L1, e1, pm1⟩ := perm_lift (fun q : Addr × List Key => Value.ref q.1) pm L rfl
  subst e1
  have hvl : L1.length < 64 := by rw [pm1.length_eq]; exact hfew
  refine wpAny_bind (wpAny_newList ?_ (by rw [List.length_map, sizeLine_eq]; omega))
  have hoL : (s1.heap.push (seqObj "list" (L1.map fun q => Value.ref q.1).toArray 0)).get? s1.heap.objs.size = some (seqObj "list" (L1.map fun q => Value.ref q.1).toArray 0) := Heap.get?_push_size _ rfl
  have hm : ∀ p ∈ L1, IsM P w (s1.heap.push (seqObj "list" (L1.map fun q => Value.ref q.1).toArray 0)) p.2 p.1 ∧ shOf p.2 = sh := fun p hp => by
    have hpL := pm1.mem_iff.mp hp
    exact ⟨isM_keep (R.tup p hpL) fun b u e => Heap.get?_push_of_some _ (k1 b u e), hs p hpL⟩
  obtain ⟨fs, hf⟩ := tupsOf_of hne L1 hm
  refine wpAny_bind (wpAny_holding (wpAny_call_entry slot_list_sort ⟨_, hoL, rfl⟩ entry_list_sort
    (G.list_sort_tups (s := { s1 with heap := s1.heap.push (seqObj "list" (L1.map fun q => Value.ref q.1).toArray 0) }) hoL hf (fun v hv => ?_) (by rw [List.length_map, sizeLine_eq]; omega) fun st' h1 _ _ => ⟨_, rfl, ?_⟩) (args_list_sort _)))
  · obtain ⟨p, hpm, rfl⟩ := List.mem_map.mp hv
    exact tupC_of (hm p hpm).1 (hm p hpm).2
  · have pmo := pairs_perm h1
    generalize (arrOf st').map (·.2) = out at pmo
    obtain ⟨L', e', pm'⟩ := perm_lift (fun p : Addr × List Key => Value.ref p.1) pmo L1 rfl
    obtain ⟨c, hc⟩ := sortedHeap_at (vs := L1.map fun q => Value.ref q.1) (out := out) hoL
    refine wpAny_pure ⟨_, rfl, hQ _ s1.heap.objs.size out c L' (fun b u e => ?_) g1 o1 hz hc e' (pm'.trans pm1)⟩
    have q := k1 b u e
    have hlt := Heap.lt_size q
    show (sortedHeap (s1.heap.push (seqObj "list" (L1.map fun q => Value.ref q.1).toArray 0)) s1.heap.objs.size (L1.map fun q => Value.ref q.1) out).get? b = some u
    rw [sortedHeap_old (Nat.ne_of_lt hlt) (by rw [size_push']; exact Nat.lt_succ_of_lt hlt)]
    exact Heap.get?_push_of_some _ q
end
section
variable {X : Cx} {K : PySem.W.Frag} {w : World} {P : Program}
/-- set(xs), xs a list of tuples of ints and texts -/
def rSetT (K : PySem.W.Frag) (P : Program) (w : World) : List V → Hp → VK → Prop := fun xs H Q => ∃ (l : Addr) (ks : TL), xs = [V.ref l] ∧ SqL K H l (ks.map fun p => V.ref p.1) ∧ (∀ p ∈ ks, SqT K H p.1 (p.2.map kV)) ∧ ks.length < 64 ∧
  ∀ a L, H a = none → (∀ p ∈ L, p ∈ ks) → L.length ≤ ks.length → (∀ p ∈ ks, ∃ q ∈ L, q.2 = p.2) → Q (.ref a) (upd H a (SetMO P w a L))
theorem kc_setT (h : X.K = K) (hP : X.prog = P) (hw : X.w = w) (hc : X.calm = true) (hu : X.A.units + 64 < cLine) : CallR X (.type "set") (rSetT K P w) := by
  subst h hP hw
  intro pins s σ H xs us Q I r h
  obtain ⟨l, ks, rfl, hl, hk, hf, q⟩ := h
  rw [Vals.ref1 r]
  obtain ⟨its, rv, pl, hz⟩ := I.list hl
  have e := refs_are rv
  subst e
  have hsz : ((ks.map fun p => Value.ref p.1).toArray).size = ks.length := by rw [List.size_toArray, List.length_map]
  have hn : H s.heap.objs.size = none := I.hok.fresh (Nat.le_refl _)
  refine call_set_gen (w := X.w) (Iv := GotM X.prog X.w s.heap.objs.size ks) (I.ok.hd hc) pl.isList (fun A' hA _ => adds_tups (fun i v e => ?_) (fun p hp => Inv.isM I (hk p hp)) (by omega) (by omega)) (fun h e _ => ⟨[], _, _, _, setM_bare e, fun p hp => (nomatch hp), Nat.le_refl _, fun p hp => (nomatch hp)⟩) fun h' tk ⟨L, es, ep, t, R, sub, len, cov⟩ kp => ?_
  · rw [List.getElem?_toArray, List.getElem?_map] at e
    cases hq : ks[i]? with
    | none => rw [hq] at e; cases e
    | some p =>
      rw [hq] at e
      exact ⟨p, rfl, (Option.some.inj e).symm⟩
  · exact ⟨.ref s.heap.objs.size, _, I.laid (t' := tk) kp (Nat.le_refl _) (setMO_new ⟨es, ep, t, R.ob, R.rows, R.tab, R.led, R.room, R.few⟩), rfl, q _ L hn sub (by omega) (fun p hp => cov p (by rw [hsz, List.take_length]; exact hp))⟩
/-- sorted(set) -/
def rSortedSetT (K : PySem.W.Frag) (P : Program) (w : World) : List V → Hp → VK → Prop := fun vs H Q => ∃ (a : Addr) (L : TL) (sh : List Bool), vs = [V.ref a] ∧ H a = some (SetMO P w a L) ∧ (∀ p ∈ L, SqT K H p.1 (p.2.map kV) ∧ shOf p.2 = sh) ∧ sh ≠ [] ∧
  ∀ (L' : TL) (p : Addr), L'.Perm L → H p = none → Q (.ref p) (upd H p (.lst (L'.map fun q => V.ref q.1)))
theorem kc_sortedSetT (h : X.K = K) (hP : X.prog = P) (hw : X.w = w) (hc : X.calm = true) : CallR X (.builtin "sorted") (rSortedSetT K P w) := by
  subst h hP hw
  intro pins s σ H vs us Q I r h
  obtain ⟨a, L, sh, rfl, ha, hk, hne, q⟩ := h
  have R0 : SetM0 X.prog X.w s.heap a L := (I.hok a _ ha).1
  obtain ⟨es, ep, t, r1, r2, r3, r4, r5, r6⟩ := R0
  have R : SetM X.prog X.w s.heap a L es ep t := ⟨r1, r2, r3, fun p hp => Inv.isM I (hk p hp).1, r4, r5, r6⟩
  rw [Vals.ref1 r]
  refine sorted_setM R (I.ok.hd hc) hne (fun p hp => (hk p hp).2) fun s' p out c L' k g o hp hg hout pm => ?_
  have hlen : (L'.map fun q => V.ref q.1).length ≤ sizeLine := by rw [List.length_map, sizeLine_eq, pm.length_eq]; omega
  have hn : H p = none := I.hok.fresh hp
  have hv : Vals (L'.map fun q => V.ref q.1) out.toList := by rw [hout]; exact vals_refs L'
  have J : Inv X pins σ (upd H p (.lst (L'.map fun q => V.ref q.1))) { s with heap := s'.heap, gens := s'.gens, drawn := s'.drawn, toks := s'.toks } :=
    I.call (ch := []) (Un.laid k hp hn) (I.hok.laid k hp ⟨hlen, out.toList, c, hv, hg⟩) (by rw [g]; exact I.bare) (fun _ z => nomatch z)
  have e : s' = { s with heap := s'.heap, gens := s'.gens, drawn := s'.drawn, toks := s'.toks } := by
    cases s'
    cases s
    cases o
    rfl
  rw [e]
  exact ⟨.ref p, _, J, rfl, q L' p pm hn⟩
end
end Fm
namespace Fm
open PySem PySem.Spec PyProof.Rows L2
section
variable {X : Cx}
/-- list(text): its letters -/
def rLstS : List V → Hp → VK → Prop := fun xs H Q => ∃ l : List Nat, xs = [V.str ⟨l.toArray⟩] ∧ l.length ≤ 1000 ∧ ∀ p, H p = none → Q (.ref p) (upd H p (.lst (l.map fun c => V.str ⟨#[c]⟩)))
theorem kc_listS (hc : X.calm = true) : CallR X (.type "list") rLstS := by
  intro pins s σ H xs us Q I r h
  obtain ⟨l, rfl, hl, q⟩ := h
  obtain ⟨u, rfl, t, rfl⟩ := vals1 r
  refine call_list_str (I.ok.hd hc) _ t (fun h' tk acc' c' kp hg hacc => ?_) (by rw [List.size_toArray, sizeLine_eq]; omega)
  have hlen : (l.map fun c => V.str ⟨#[c]⟩).length ≤ sizeLine := by rw [List.length_map, sizeLine_eq]; omega
  have hv : Vals (l.map fun c => V.str ⟨#[c]⟩) acc'.toList := by
    have h1 := hacc.1
    rw [List.size_toArray] at h1
    have h2 : ∀ (j : Nat) (v : Value), acc'.toList[j]? = some v → ∃ c t, l[j]? = some c ∧ v = .str ⟨#[c]⟩ t := fun j v e => by
      obtain ⟨c, t, e1, e2⟩ := hacc.2 j v (by rw [← Array.getElem?_toList]; exact e)
      have e1' : l.toArray[j]? = some c := e1
      rw [List.getElem?_toArray] at e1'
      exact ⟨c, t, e1', e2⟩
    have h3 : acc'.toList.length = l.length := by rw [Array.length_toList]; exact h1
    clear hacc h1 hg hlen hl r q
    generalize acc'.toList = us at h2 h3
    induction l generalizing us with
    | nil =>
      cases us with
      | nil => exact .nil
      | cons u us => cases h3
    | cons c l ih =>
      cases us with
      | nil => cases h3
      | cons u us =>
        obtain ⟨c', t, e1, e2⟩ := h2 0 u rfl
        cases e1
        exact .cons ⟨t, e2⟩ (ih us (fun j v e => h2 (j + 1) v e) (by simpa using h3))
  exact ⟨.ref s.heap.objs.size, _, I.laid (t' := tk) kp (Nat.le_refl _) (show ObjOk X.prog X.w _ h' _ (.lst _) from ⟨hlen, acc'.toList, c', hv, by rw [Array.toArray_toList]; exact hg⟩), rfl, q _ (I.hok.fresh (Nat.le_refl _))⟩
end
end Fm
/-! the least of a list of tuples of whole numbers -/
namespace Fm
open PySem PySem.Spec PyProof.Rows L2
/-- all of h0 stands in h -/
abbrev Ovr (h0 h : Heap) : Prop := ∀ b o, h0.get? b = some o → h.get? b = some o
section
variable {prog : Program} {w : World} {A : Around} {R : Result → Shared → Prop} {I S : Addr} {fp wr : List Addr} {n : Nat} {Pv : Nat → Value → Prop} {St : Nat → Heap → Prop} {h0 : Heap} {bt : Nat → Nat → Bool}
abbrev CmpH (prog : Program) (w : World) (A : Around) (h0 : Heap) (Pv : Nat → Value → Prop) (bt : Nat → Nat → Bool) : Prop :=
  ∀ i j a b (z : Shared) (Q : Value → Shared → Prop) (E : Value → Shared → Prop), Ovr h0 z.heap → Pv i a → Pv j b → Q (.bool (bt i j)) z → wpAny (model prog w) A (richCompare .Lt a b) Q E z
theorem ovr_upd {h : Heap} {f : Obj → Obj} (o : Ovr h0 h) (nS : h0.get? S = none) : Ovr h0 (h.update S f) := fun b x e =>
  (Heap.get?_update_other _ _ (fun q : S = b => by rw [← q, nS] at e; exact nomatch e)).trans (o b x e)
theorem ovr_wr {h h' : Heap} (o : Ovr h0 h) (nw : ∀ b ∈ wr, h0.get? b = none) (k : ∀ b x, b ∉ wr → h.get? b = some x → h'.get? b = some x) : Ovr h0 h' := fun b x e =>
  k b x (fun m => by rw [nw b m] at e; exact nomatch e) (o b x e)
theorem loopH (W : Walks prog w A.in1 I fp wr n Pv St) (cm : CmpH prog w A.in1 h0 Pv bt) (nw : ∀ b ∈ wr, h0.get? b = none) (nS : h0.get? S = none) (Sf : S ∉ fp) (k : Nat) :
    ∀ (j : Nat) (z : Shared) (vb : Value) (c : Nat), n - (j + 1) = k → j + 1 ≤ n → St (j + 1) z.heap → Pv (argBest bt j) vb → Ovr h0 z.heap → z.heap.get? S = some { cls := .type "list", dict := none, data := .seq #[vb, vb] c, slots := #[] } →
    (∀ v h' tk, Pv (argBest bt (n - 1)) v → Ovr h0 h' → R (.ok (.ret v)) { z with heap := h', toks := tk }) → codeAny (model prog w) A (.builtin "min.loop" ⟨[.ref I, .none, .ref S], []⟩) R z := by
  have Sw : S ∉ wr := fun q => Sf (W.sub _ q)
  have nm : (toString "min" ++ toString ".loop" : String) = "min.loop" := by decide
  induction k with
  | zero =>
    intro j z vb c hk hj st pb ov gS fin
    have e : j + 1 = n := by omega
    apply codeAny_builtin F.entry_min_loop; rw [Around.under_plainId F.plain_min_loop _]; show wpAny _ A.in1 (seqItems? (.ref S) >>= _) _ _ z
    refine wpAny_bind (wpAny_seqItems gS rfl (show wpAny _ A.in1 (tryCatch (pyNext (.ref I)) _ >>= _) _ _ z from wpAny_bind (wpAny_tryCatch (W.done z _ _ (e ▸ st) fun h' tk kk => ?_))))
    have gS' := kk S _ Sw gS
    exact show wpAny _ A.in1 (updateSeq S (fun _ => #[]) >>= _) _ _ _ from wpAny_bind (wpAny_updateSeq gS' rfl (wpAny_bind (wpAny_letGo (wpAny_pure (fin vb _ tk (by rw [← e]; exact pb) (ovr_upd (ovr_wr ov nw kk) nS))))))
  | succ k ih =>
    intro j z vb c hk hj st pb ov gS fin
    have lt : j + 1 < n := by omega
    apply codeAny_builtin F.entry_min_loop; rw [Around.under_plainId F.plain_min_loop _]; show wpAny _ A.in1 (seqItems? (.ref S) >>= _) _ _ z
    refine wpAny_bind (wpAny_seqItems gS rfl (show wpAny _ A.in1 (tryCatch (pyNext (.ref I)) _ >>= _) _ _ z from wpAny_bind (wpAny_tryCatch (W.item (j + 1) z _ _ lt st fun v h' tk pv st' kk => ?_))))
    have gS' := kk S _ Sw gS
    have ov' := ovr_wr ov nw kk
    refine show wpAny _ A.in1 (tryCatch (holding [v, v] (richCompare .Lt v vb >>= _)) _ >>= _) _ _ _ from wpAny_bind (wpAny_tryCatch (wpAny_holding (wpAny_bind (cm (j + 1) (argBest bt j) v vb _ _ _ ov' pv pb (wpAny_bind (wpAny_holding (wpAny_truthy_bool (wpAny_bind (wpAny_letGo (wpAny_pure ?_))))))))))
    cases hb : bt (j + 1) (argBest bt j) with
    | true =>
      simp only [if_true]
      refine wpAny_bind (wpAny_updateSeq gS' rfl (wpAny_bind (wpAny_letGo ?_)))
      rw [nm]
      exact wpAny_pure ⟨plainId_quiet F.plain_min_loop _, ih (j + 1) _ v _ (by omega) lt (W.frame _ _ _ st' fun b bf o e => (Heap.get?_update_other _ _ (fun q : S = b => Sf (q ▸ bf))).trans e) (by simp only [argBest, hb, if_true]; exact pv) (ovr_upd ov' nS) (Heap.get?_update_self _ gS' rfl)
        fun v' h2 t2 p2 o2 => fin v' h2 t2 p2 o2⟩
    | false =>
      simp only [Bool.false_eq_true, if_false]
      refine wpAny_bind (wpAny_letGo ?_)
      rw [nm]
      exact wpAny_pure ⟨plainId_quiet F.plain_min_loop _, ih (j + 1) _ vb c (by omega) lt st' (by simp only [argBest, hb, Bool.false_eq_true, if_false]; exact pb) ov' gS' fun v' h2 t2 p2 o2 => fin v' h2 t2 p2 o2⟩
theorem loopH0 (W : Walks prog w A.in1 I fp wr n Pv St) (cm : CmpH prog w A.in1 h0 Pv bt) (nw : ∀ b ∈ wr, h0.get? b = none) (nS : h0.get? S = none) (Sf : S ∉ fp) (hn : 0 < n) {z : Shared} {c : Nat} (st : St 0 z.heap) (ov : Ovr h0 z.heap)
    (gS : z.heap.get? S = some { cls := .type "list", dict := none, data := .seq #[] c, slots := #[] }) (fin : ∀ v h' tk, Pv (argBest bt (n - 1)) v → Ovr h0 h' → R (.ok (.ret v)) { z with heap := h', toks := tk }) :
    codeAny (model prog w) A (.builtin "min.loop" ⟨[.ref I, .none, .ref S], []⟩) R z := by
  have Sw : S ∉ wr := fun q => Sf (W.sub _ q)
  have nm : (toString "min" ++ toString ".loop" : String) = "min.loop" := by decide
  apply codeAny_builtin F.entry_min_loop; rw [Around.under_plainId F.plain_min_loop _]; show wpAny _ A.in1 (seqItems? (.ref S) >>= _) _ _ z
  refine wpAny_bind (wpAny_seqItems gS rfl (show wpAny _ A.in1 (tryCatch (pyNext (.ref I)) _ >>= _) _ _ z from wpAny_bind (wpAny_tryCatch (W.item 0 z _ _ hn st fun v h' tk pv st' kk => ?_))))
  have gS' := kk S _ Sw gS
  refine show wpAny _ A.in1 (updateSeq S (fun _ => #[v, v]) >>= _) _ _ _ from wpAny_bind (wpAny_updateSeq gS' rfl ?_)
  rw [nm]
  exact wpAny_pure ⟨plainId_quiet F.plain_min_loop _, loopH W cm nw nS Sf _ 0 _ v _ rfl hn (W.frame _ _ _ st' fun b bf o e => (Heap.get?_update_other _ _ (fun q : S = b => Sf (q ▸ bf))).trans e) pv (ovr_upd (ovr_wr ov nw kk) nS) (Heap.get?_update_self _ gS' rfl) fun v' h2 t2 p2 o2 => fin v' h2 t2 p2 o2⟩
end
section
variable {X : Cx} {K : PySem.W.Frag}
/-- min(xs), xs a list of tuples of whole numbers: one of them, none before it -/
def rMinT (K : PySem.W.Frag) : List V → Hp → VK → Prop := fun vs H Q => ∃ (a : Addr) (ts : List (Addr × List Int)), vs = [V.ref a] ∧ SqL K H a (ts.map fun t => V.ref t.1) ∧ (∀ t ∈ ts, SqT K H t.1 (t.2.map V.int)) ∧ 0 < ts.length ∧
  ∀ t, t ∈ ts → (∀ u ∈ ts, HT.lexLt u.2 t.2 = false) → Q (.ref t.1) H
theorem lex_tot : ∀ xs ys : List Int, HT.lexLt xs ys = false → HT.lexLt ys xs = false → xs = ys
  | [], [], _, _ => rfl
  | [], _ :: _, h, _ => nomatch h
  | _ :: _, [], _, h => nomatch h
  | x :: xs, y :: ys, h1, h2 => by
    rw [HT.lexLt_cons] at h1 h2
    by_cases e : x = y
    · rw [if_pos e] at h1
      rw [if_pos e.symm] at h2
      rw [e, lex_tot xs ys h1 h2]
    · rw [if_neg e] at h1
      rw [if_neg (fun q => e q.symm)] at h2
      have := of_decide_eq_false h1
      have := of_decide_eq_false h2
      omega
theorem lex_irr : ∀ xs : List Int, HT.lexLt xs xs = false
  | [] => rfl
  | x :: xs => by rw [HT.lexLt_cons, if_pos rfl]; exact lex_irr xs
theorem lex_trans : ∀ xs ys zs : List Int, HT.lexLt xs ys = true → HT.lexLt ys zs = true → HT.lexLt xs zs = true
  | [], [], _, h, _ => nomatch h
  | _ :: _, [], _, h, _ => nomatch h
  | _, _ :: _, [], _, h => nomatch h
  | [], _ :: _, _ :: _, _, _ => rfl
  | x :: xs, y :: ys, z :: zs, h1, h2 => by
    rw [HT.lexLt_cons] at h1 h2 ⊢
    by_cases e : x = y
    · rw [if_pos e] at h1
      subst e
      by_cases e2 : x = z
      · rw [if_pos e2] at h2 ⊢
        exact lex_trans xs ys zs h1 h2
      · rw [if_neg e2] at h2 ⊢
        exact h2
    · rw [if_neg e] at h1
      have h3 := of_decide_eq_true h1
      by_cases e2 : y = z
      · subst e2
        rw [if_neg e]; exact h1
      · rw [if_neg e2] at h2
        have h4 := of_decide_eq_true h2
        rw [if_neg (by omega)]
        exact decide_eq_true (by omega)
/-- the place that stays is of a least one -/
theorem argBest_lex (f : Nat → List Int) : ∀ n, argBest (fun i j => HT.lexLt (f i) (f j)) n ≤ n ∧ ∀ j, j ≤ n → HT.lexLt (f j) (f (argBest (fun i j => HT.lexLt (f i) (f j)) n)) = false
  | 0 => ⟨Nat.le_refl _, fun j hj => by
    have : j = 0 := by omega
    subst this; exact lex_irr _⟩
  | n + 1 => by
    obtain ⟨h1, h2⟩ := argBest_lex f n
    generalize hb : argBest (fun i j => HT.lexLt (f i) (f j)) n = b at h1 h2
    show (if HT.lexLt (f (n + 1)) (f (argBest (fun i j => HT.lexLt (f i) (f j)) n)) then n + 1 else argBest (fun i j => HT.lexLt (f i) (f j)) n) ≤ n + 1 ∧ ∀ j, j ≤ n + 1 → HT.lexLt (f j) (f (if HT.lexLt (f (n + 1)) (f (argBest (fun i j => HT.lexLt (f i) (f j)) n)) then n + 1 else argBest (fun i j => HT.lexLt (f i) (f j)) n)) = false
    rw [hb]
    cases q : HT.lexLt (f (n + 1)) (f b) with
    | true =>
      rw [if_pos rfl]
      refine ⟨Nat.le_refl _, fun j hj => ?_⟩
      by_cases e : j = n + 1
      · subst e; exact lex_irr _
      · cases r : HT.lexLt (f j) (f (n + 1)) with
        | false => rfl
        | true => have := lex_trans _ _ _ r q; rw [h2 j (by omega)] at this; exact this.symm
    | false =>
      rw [if_neg (fun z => nomatch z)]
      refine ⟨by omega, fun j hj => ?_⟩
      by_cases e : j = n + 1
      · subst e; exact q
      · exact h2 j (by omega)
theorem refs_ats : ∀ {ts : List (Addr × List Int)} {us : List Value}, Vals (ts.map fun t => V.ref t.1) us → us = ts.map fun t => Value.ref t.1
  | [], _, .nil => rfl
  | _ :: _, _, .cons h r => by cases h; rw [List.map_cons, ← refs_ats r]
theorem kc_minT (h : X.K = K) (hc : X.calm = true) (hu : X.A.units + 64 < cLine) : CallR X (.builtin "min") (rMinT K) := by
  subst h
  intro pins s σ H vs us Q I r h
  obtain ⟨a, ts, rfl, hl, ht, hne, q⟩ := h
  rw [Vals.ref1 r]
  obtain ⟨its, rv, pl, hz⟩ := I.list hl
  have hlist := pl.isList
  have e := refs_ats rv
  subst e
  have nm : (toString "min" ++ toString ".loop" : String) = "min.loop" := by decide
  have hlt : a < s.heap.objs.size := by obtain ⟨_, e, _⟩ := hlist; exact Heap.lt_size e
  have nI : s.heap.get? s.heap.objs.size = none := Heap.get?_none_of_le (Nat.le_refl _)
  apply call_function_tree F.kind_min F.plain_min F.entry_min (F.args_min1 _)
  refine show wpAny _ X.A.in1 (Builtin.Builtins.bindParams "min" ["key", "default"] 0 ⟨[], []⟩ >>= _) _ _ s from wpAny_bind (wpAny_of_eq (show Builtin.Builtins.bindParams "min" ["key", "default"] 0 ⟨[], []⟩ = pure [none, none] from rfl) (wpAny_bind (wpAny_pure (wpAny_bind (wpAny_pyIter_list hlist (wpAny_bind (wpAny_newObj_type ?_)))))))
  rw [nm]
  have hsz : (s.heap.push { cls := .type "list_iterator", data := .fields #[.ref a, .int 0 0] }).objs.size = s.heap.objs.size + 1 := Heap.size_push ..
  refine wpAny_pure ⟨plainId_quiet F.plain_min_loop _, loopH0 (h0 := s.heap) (bt := fun i j => HT.lexLt ((ts.map (·.2)).getD i []) ((ts.map (·.2)).getD j [])) (Walks.list (A := X.A.in1) (I.ok.hd hc) s.heap.objs.size a (Nat.ne_of_lt hlt) (ts.map fun t => Value.ref t.1).toArray) (fun i j u v z Q' E' ov hi hj hq => ?_) (fun b hb => ?_) ?_ ?_ ?_ ?_ ?_ (Heap.get?_push_size _ rfl) fun v h' tk hp ov => ?_⟩
  · obtain ⟨t1, h1, rfl⟩ : ∃ t, ts[i]? = some t ∧ Value.ref t.1 = u := by
      have hi' : (ts.map fun t => Value.ref t.1).toArray[i]? = some u := hi
      rw [List.getElem?_toArray, List.getElem?_map] at hi'
      obtain ⟨t, h1, h2⟩ := Option.map_eq_some_iff.mp hi'
      exact ⟨t, h1, h2⟩
    obtain ⟨t2, h2, rfl⟩ : ∃ t, ts[j]? = some t ∧ Value.ref t.1 = v := by
      have hj' : (ts.map fun t => Value.ref t.1).toArray[j]? = some v := hj
      rw [List.getElem?_toArray, List.getElem?_map] at hj'
      obtain ⟨t, h1, h2⟩ := Option.map_eq_some_iff.mp hj'
      exact ⟨t, h1, h2⟩
    obtain ⟨i1, r1, p1, _⟩ := I.tuple (ht t1 (List.mem_of_getElem? h1))
    obtain ⟨i2, r2, p2, _⟩ := I.tuple (ht t2 (List.mem_of_getElem? h2))
    obtain ⟨o1, a1, b1, n1, c1⟩ := p1
    obtain ⟨o2, a2, b2, n2, c2⟩ := p2
    refine HT.lt_tupInts (A := X.A.in1) ⟨o1, ov _ _ a1, b1, n1, c1⟩ ⟨o2, ov _ _ a2, b2, n2, c2⟩ (intsAre_of r1) (intsAre_of r2) (by show X.A.units + 1 < cLine; omega) ?_
    have e1 : (ts.map (·.2)).getD i [] = t1.2 := by rw [List.getD_eq_getElem?_getD, List.getElem?_map, h1]; rfl
    have e2 : (ts.map (·.2)).getD j [] = t2.2 := by rw [List.getD_eq_getElem?_getD, List.getElem?_map, h2]; rfl
    have hq' : Q' (.bool (HT.lexLt ((ts.map (·.2)).getD i []) ((ts.map (·.2)).getD j []))) z := hq
    rw [e1, e2] at hq'
    exact hq'
  · rw [List.mem_singleton.mp hb]; exact nI
  · exact Heap.get?_none_of_le (by rw [hsz]; omega)
  · intro m
    rw [hsz] at m
    rcases List.mem_cons.mp m with m | m
    · exact absurd m (Nat.succ_ne_self _)
    · have e := List.mem_singleton.mp m
      rw [← e] at hlt
      exact absurd hlt (Nat.not_lt.mpr (Nat.le_succ _))
  · show 0 < (ts.map fun t => Value.ref t.1).toArray.size
    rw [List.size_toArray, List.length_map]; exact hne
  · refine ⟨⟨_, Heap.get?_push_of_some _ (Heap.get?_push_size _ rfl), rfl, rfl⟩, (hlist.push _).push _⟩
  · exact fun b o e => Heap.get?_push_of_some _ (Heap.get?_push_of_some _ e)
  · have hn : (ts.map fun t => Value.ref t.1).toArray.size = ts.length := by rw [List.size_toArray, List.length_map]
    rw [hn] at hp
    obtain ⟨h1, h2⟩ := argBest_lex (fun i => (ts.map (·.2)).getD i []) (ts.length - 1)
    generalize argBest (fun i j => HT.lexLt ((ts.map (·.2)).getD i []) ((ts.map (·.2)).getD j [])) (ts.length - 1) = m at h1 h2 hp
    have hp' : (ts.map fun t => Value.ref t.1).toArray[m]? = some v := hp
    rw [List.getElem?_toArray, List.getElem?_map] at hp'
    obtain ⟨t, h3, rfl⟩ := Option.map_eq_some_iff.mp hp'
    refine ⟨.ref t.1, H, I.kept (t' := tk) ov, rfl, q t (List.mem_of_getElem? h3) fun u hu => ?_⟩
    obtain ⟨j, hj⟩ := List.mem_iff_getElem?.mp hu
    have hjl := (List.getElem?_eq_some_iff.mp hj).1
    have := h2 j (by omega)
    have e1 : (ts.map (·.2)).getD j [] = u.2 := by rw [List.getD_eq_getElem?_getD, List.getElem?_map, hj]; rfl
    have e2 : (ts.map (·.2)).getD m [] = t.2 := by rw [List.getD_eq_getElem?_getD, List.getElem?_map, h3]; rfl
    have this' : HT.lexLt ((ts.map (·.2)).getD j []) ((ts.map (·.2)).getD m []) = false := this
    rw [e1, e2] at this'
    exact this'
end
end Fm
/-! pairs of a cost and a place, told by one code each -/
namespace Fm
open PySem PySem.Spec PyProof.Rows L2
section
variable {X : Cx} {K : PySem.W.Frag}
theorem ko_ltT (h : X.K = K) (hu : X.A.units < cLine) : OpR X (compareOp .Lt) (rLtT K) := by subst h; exact op_ltT hu
/-- sorted(xs), xs a list of fewer than 64 triples of ints in [0, B), B any bound -/
def rSort3 (K : PySem.W.Frag) : List V → Hp → VK → Prop := fun vs H Q => ∃ B : Int, rSortU K 3 B vs H Q
theorem kc_sortT3 (h : X.K = K) : CallR X (.builtin "sorted") (rSort3 K) := by
  subst h
  intro pins s σ H vs us Q I r ⟨B, h⟩
  exact cr_sortT (B := B) (by decide) _ _ _ _ _ _ _ I r h
end
/-- the pair of the code e, n the text's length -/
abbrev dC (n e : Nat) : Nat := e / (n + 1)
abbrev dB (n e : Nat) : Nat := n - e % (n + 1)
abbrev cod (n c b : Nat) : Nat := c * (n + 1) + (n - b)
def pL (n e : Nat) : List Int := [((dC n e : Nat) : Int), -((dB n e : Nat) : Int)]
def rPr (n : Nat) : Rp Nat := fun H v e => ∃ u, v = .ref u ∧ H u = some (.tup ((pL n e).map V.int))
theorem dC_cod {n c b : Nat} (h : b ≤ n) : dC n (cod n c b) = c := by
  unfold dC cod
  rw [Nat.mul_comm, Nat.mul_add_div (by omega), Nat.div_eq_of_lt (by omega), Nat.add_zero]
theorem dB_cod {n c b : Nat} (h : b ≤ n) : dB n (cod n c b) = b := by
  unfold dB cod
  rw [Nat.mul_comm, Nat.mul_add_mod, Nat.mod_eq_of_lt (by omega)]
  omega
theorem cod_d (n e : Nat) : cod n (dC n e) (dB n e) = e := by
  unfold cod dC dB
  have h1 := Nat.mod_lt e (show 0 < n + 1 by omega)
  have h2 := Nat.div_add_mod e (n + 1)
  have h3 : n - (n - e % (n + 1)) = e % (n + 1) := by omega
  rw [h3, Nat.mul_comm]; exact h2
theorem dB_le (n e : Nat) : dB n e ≤ n := Nat.sub_le _ _
theorem cod_add (n e d : Nat) : cod n (dC n e + d) (dB n e) = e + d * (n + 1) := by
  have := cod_d n e
  unfold cod at this ⊢
  rw [Nat.add_mul]
  omega
theorem pL_cod {n c b : Nat} (h : b ≤ n) : pL n (cod n c b) = [(c : Int), -(b : Int)] := by
  unfold pL
  rw [dC_cod h, dB_cod h]
theorem pL_lt (n e f : Nat) : HT.lexLt (pL n e) (pL n f) = decide (e < f) := by
  have h1 := cod_d n e
  have h2 := cod_d n f
  have b1 := dB_le n e
  have b2 := dB_le n f
  unfold pL
  generalize dC n e = c at *
  generalize dC n f = c' at *
  generalize dB n e = b at *
  generalize dB n f = b' at *
  subst h1 h2
  unfold cod
  rw [HT.lexLt_cons]
  by_cases q : (c : Int) = c'
  · have q' : c = c' := Int.ofNat.inj q
    subst q'
    rw [if_pos rfl, HT.lexLt_cons]
    by_cases r : -(b : Int) = -(b' : Int)
    · have : b = b' := by omega
      subst this
      rw [if_pos rfl]
      simp [HT.lexLt_nil_nil]
    · rw [if_neg r]
      exact decide_eq_decide.mpr (by omega)
  · rw [if_neg q]
    refine decide_eq_decide.mpr ?_
    have q' : c ≠ c' := fun z => q (by rw [z])
    constructor
    · intro h
      have : c + 1 ≤ c' := by omega
      have := Nat.mul_le_mul_right (n + 1) this
      rw [Nat.add_mul] at this
      omega
    · intro h
      apply Decidable.byContradiction
      intro z
      have : c' + 1 ≤ c := by omega
      have := Nat.mul_le_mul_right (n + 1) this
      rw [Nat.add_mul] at this
      omega
theorem pL_inj {n e f : Nat} (h : pL n e = pL n f) : e = f := by
  have h1 := pL_lt n e f
  have h2 := pL_lt n f e
  rw [h] at h1 h2
  rw [lex_irr] at h1 h2
  have := of_decide_eq_false h1.symm
  have := of_decide_eq_false h2.symm
  omega
end Fm
/-! sorted lists of triples of naturals -/
namespace Fm
open PySem PySem.Spec PyProof.Rows L2
abbrev T3 := Nat × Nat × Nat
abbrev r3 : Rp T3 := rP3 rN rN rN
def le3 (x y : T3) : Prop := x.1 < y.1 ∨ (x.1 = y.1 ∧ (x.2.1 < y.2.1 ∨ (x.2.1 = y.2.1 ∧ x.2.2 ≤ y.2.2)))
theorem le3_anti {x y : T3} (h : le3 x y) (k : le3 y x) : x = y := by
  obtain ⟨a, b, c⟩ := x
  obtain ⟨a', b', c'⟩ := y
  unfold le3 at h k
  simp only at h k
  have e1 : a = a' := by omega
  have e2 : b = b' := by omega
  have e3 : c = c' := by omega
  rw [e1, e2, e3]
theorem srt3_eq {l m : List T3} (h : l.Perm m) (a : l.Pairwise le3) (b : m.Pairwise le3) : l = m :=
  List.Perm.eq_of_pairwise (fun _ _ _ _ x y => le3_anti x y) a b h
theorem code3 (B x y z : Int) : TS.code B [x, y, z] = (x * B + y) * B + z := by
  show x * B ^ 2 + (y * B ^ 1 + (z * B ^ 0 + 0)) = _
  have e1 : B ^ 2 = B * B := by rw [show (2 : Nat) = 1 + 1 from rfl, Int.pow_succ, Int.pow_succ, Int.pow_zero, Int.one_mul]
  have e2 : B ^ 1 = B := by rw [Int.pow_succ, Int.pow_zero, Int.one_mul]
  rw [e1, e2, Int.pow_zero, Int.mul_one, Int.add_zero, Int.add_mul, Int.mul_assoc, Int.add_assoc]
theorem dig_lt {B p q r s : Int} (hr : 0 ≤ r) (hs : s < B) (h : p * B + r ≤ q * B + s) (hB : 0 < B) : p ≤ q := by
  apply Int.not_lt.mp
  intro z
  have h1 : (q + 1) * B ≤ p * B := Int.mul_le_mul_of_nonneg_right (by omega) (by omega)
  rw [Int.add_mul, Int.one_mul] at h1
  omega
theorem le3_code {B : Int} {x y : T3} (hx : (x.1 : Int) < B ∧ (x.2.1 : Int) < B ∧ (x.2.2 : Int) < B) (hy : (y.1 : Int) < B ∧ (y.2.1 : Int) < B ∧ (y.2.2 : Int) < B)
    (h : TS.code B [(x.1 : Int), (x.2.1 : Int), (x.2.2 : Int)] ≤ TS.code B [(y.1 : Int), (y.2.1 : Int), (y.2.2 : Int)]) : le3 x y := by
  obtain ⟨a, b, c⟩ := x
  obtain ⟨a', b', c'⟩ := y
  simp only at hx hy h
  rw [code3, code3] at h
  have hB : 0 < B := by omega
  have h1 := dig_lt (by omega) hy.2.2 h hB
  have h2 := dig_lt (by omega) hy.2.1 h1 hB
  unfold le3
  simp only
  by_cases e1 : a = a'
  · subst e1
    refine .inr ⟨rfl, ?_⟩
    by_cases e2 : b = b'
    · subst e2
      exact .inr ⟨rfl, by omega⟩
    · exact .inl (by omega)
  · exact .inl (by omega)
theorem al_perm {α : Type} {r : Rp α} {H : Hp} {xs ys : List V} (p : ys.Perm xs) : ∀ {l : List α}, Al r H xs l → ∃ l', l'.Perm l ∧ Al r H ys l' := by
  have q := p.symm
  clear p
  induction q with
  | nil => intro l h; cases h; exact ⟨[], .nil, .nil⟩
  | cons x _ ih =>
    intro l h
    cases h with
    | cons h t =>
      obtain ⟨l', p, a⟩ := ih t
      exact ⟨_ :: l', p.cons _, .cons h a⟩
  | swap x y l0 =>
    intro l h
    cases h with
    | cons h t =>
      cases t with
      | cons h2 t => exact ⟨_, .swap _ _ _, .cons h2 (.cons h t)⟩
  | trans _ _ i1 i2 =>
    intro l h
    obtain ⟨l1, p1, a1⟩ := i1 h
    obtain ⟨l2, p2, a2⟩ := i2 a1
    exact ⟨l2, p2.trans p1, a2⟩
theorem al_pw {α : Type} {r : Rp α} {H : Hp} {R : V → V → Prop} {S : α → α → Prop} (f : ∀ x y a b, r H x a → r H y b → R x y → S a b) : ∀ {xs : List V} {l : List α}, Al r H xs l → xs.Pairwise R → l.Pairwise S
  | _, _, .nil, _ => .nil
  | _, _, .cons h t, w => by
    obtain ⟨w1, w2⟩ := List.pairwise_cons.mp w
    refine List.pairwise_cons.mpr ⟨fun b hb => ?_, al_pw f t w2⟩
    obtain ⟨i, hi⟩ := List.mem_iff_getElem?.mp hb
    obtain ⟨y, hy, hr⟩ := Al.at t hi
    exact f _ _ _ _ h hr (w1 y (List.mem_of_getElem? hy))
theorem al_mem {α : Type} {r : Rp α} {H : Hp} {xs : List V} {l : List α} (h : Al r H xs l) {x : V} (m : x ∈ xs) : ∃ a ∈ l, r H x a := by
  obtain ⟨i, hi⟩ := List.mem_iff_getElem?.mp m
  obtain ⟨a, ha, hr⟩ := h.get hi
  exact ⟨a, List.mem_of_getElem? ha, hr⟩
section
variable {K : PySem.W.Frag}
theorem tupI_r3 {H : Hp} {x : V} {a : T3} (h : r3 H x a) : TupI K H x [(a.1 : Int), (a.2.1 : Int), (a.2.2 : Int)] := by
  obtain ⟨u, x1, x2, x3, rfl, hu, rfl, rfl, rfl⟩ := h
  exact ⟨u, rfl, SqT.of hu⟩
theorem t3_max (l : List T3) : ∃ B : Nat, ∀ x ∈ l, x.1 < B ∧ x.2.1 < B ∧ x.2.2 < B := by
  induction l with
  | nil => exact ⟨0, fun _ h => nomatch h⟩
  | cons a l ih =>
    obtain ⟨B, hB⟩ := ih
    refine ⟨B + a.1 + a.2.1 + a.2.2 + 1, fun x h => ?_⟩
    rcases List.mem_cons.mp h with rfl | h
    · omega
    · have := hB x h; omega
theorem sort3_by {a : Addr} {xs : List V} {l : List T3} {H : Hp} {Q : VK} (ha : SqL K H a xs) (al : Al r3 H xs l) (h64 : l.length < 64)
    (k : ∀ (ys : List V) (l' : List T3) (p : Addr), Al r3 H ys l' → l'.Perm l → l'.Pairwise le3 → H p = none → Q (.ref p) (upd H p (.lst ys))) : rSort3 K [.ref a] H Q := by
  obtain ⟨B, hB⟩ := t3_max l
  have bd : ∀ {x : V} {t : T3}, r3 H x t → t ∈ l → TupI K H x [(t.1 : Int), (t.2.1 : Int), (t.2.2 : Int)] ∧ TS.Bd (B : Int) [(t.1 : Int), (t.2.1 : Int), (t.2.2 : Int)] := by
    intro x t h m
    have := hB t m
    refine ⟨tupI_r3 h, fun n hn => ?_⟩
    simp only [List.mem_cons, List.not_mem_nil, or_false] at hn
    rcases hn with rfl | rfl | rfl <;> omega
  refine ⟨B, a, xs, rfl, ha, by rw [al.len]; exact h64, fun x hx => ?_, fun ys p pm pw hp => ?_⟩
  · obtain ⟨t, ht, hr⟩ := al_mem al hx
    exact ⟨_, (bd hr ht).1, rfl, (bd hr ht).2⟩
  · obtain ⟨l', p1, a1⟩ := al_perm pm al
    refine k ys l' p a1 p1 ?_ hp
    have key : ∀ {xs : List V} {m : List T3}, Al r3 H xs m → (∀ t ∈ m, t ∈ l) → xs.Pairwise (fun x y => ∀ n m, TupI K H x n → TupI K H y m → TS.code B n ≤ TS.code B m) → m.Pairwise le3 := by
      intro xs m h
      induction h with
      | nil => exact fun _ _ => .nil
      | @cons x t xs m h1 h2 ih =>
        intro hm w
        obtain ⟨w1, w2⟩ := List.pairwise_cons.mp w
        refine List.pairwise_cons.mpr ⟨fun b hb => ?_, ih (fun t ht => hm t (List.mem_cons_of_mem _ ht)) w2⟩
        obtain ⟨i, hi⟩ := List.mem_iff_getElem?.mp hb
        obtain ⟨y, hy, hr⟩ := Al.at h2 hi
        have q1 := hB t (hm t List.mem_cons_self)
        have q2 := hB b (hm b (List.mem_cons_of_mem _ hb))
        exact le3_code (B := B) ⟨by omega, by omega, by omega⟩ ⟨by omega, by omega, by omega⟩ (w1 y (List.mem_of_getElem? hy) _ _ (tupI_r3 h1) (tupI_r3 hr))
    exact key a1 (fun t ht => p1.mem_iff.mp ht) pw
end
end Fm
/-! a letter, some times over; a pair out of a list -/
namespace Fm
open PySem PySem.Spec PyProof.Rows L2
theorem appR {α : Type} {l a b : List α} (h : a = b) : l ++ a = l ++ b := h ▸ rfl
theorem kg_unl {X : Cx} {K : PySem.W.Frag} {es : List Expr} {tgs : TGs} {k : Nat} {pos : Pos} (n : Nat) (h : X.K = K) (hc : X.calm = true) (hs : PGs X es tgs) (hn : (assignEach es X.env).length = n := by rfl) (hst : (assignEach es X.env).findIdx? (·.1) = none := by rfl) :
    PG X (.Tuple es k pos) (gUnl K n tgs) := by
  subst h
  exact pg_unl hc hs hn hst
def rRepC : R2 := fun x y H Q => ∃ (c k : Nat), x = .str ⟨#[c]⟩ ∧ y = .int (k : Int) ∧ k ≤ 1000000 ∧ Q (.str ⟨(List.replicate k c).toArray⟩) H
theorem str_of_list {x : Str} {l : List Nat} (h : x.cps.toList = l) : x = ⟨l.toArray⟩ := by
  cases x
  subst h
  simp
theorem op_repC {X : Cx} : OpR X (binaryOp .Mult) rRepC := by
  intro pins s σ H x y v u Q I rx ry h
  obtain ⟨c, k, rfl, rfl, hk, q⟩ := h
  obtain ⟨t, rfl⟩ := rx
  obtain ⟨t', rfl⟩ := ry
  have e : Txt.mul ⟨#[c]⟩ (k : Int) = ⟨(List.replicate k c).toArray⟩ := str_of_list (by rw [mul_one_list, Int.toNat_natCast])
  have ok : MulOk ⟨#[c]⟩ (k : Int) := by
    refine ⟨?_, fun h1 h2 => ?_, fun h1 h2 => ?_⟩
    · rw [Bool.or_eq_false_iff]
      exact ⟨decide_eq_false (by omega), decide_eq_false (by omega)⟩
    · show ¬ ((1 : Int) > (2 ^ 63 - 1) / (k : Int))
      have : (1 : Int) ≤ (2 ^ 63 - 1) / (k : Int) := by
        rw [Int.le_ediv_iff_mul_le (by omega)]
        omega
      omega
    · show PySem.Builtin.Str.tooLong (1 * ((k : Nat) : Int).toNat) = false
      rw [Int.toNat_natCast, Nat.one_mul]
      unfold PySem.Builtin.Str.tooLong
      exact decide_eq_false (by rw [sizeLine_eq]; omega)
  refine SB.mul ok fun t2 tk => ?_
  rw [e]
  exact ⟨.str ⟨(List.replicate k c).toArray⟩, H, I.tok _, ⟨t2, rfl⟩, q⟩
end Fm
/-! sets of texts, by the list of what is in them -/
namespace Fm
open PySem PySem.Spec PyProof.Rows L2
def kyS (e : Int × Value) : Str := match e.2 with
  | .str k _ => k
  | _ => Str.empty
section
variable {P : Program} {w : World} {A : Around} {E : Value → Shared → Prop} {s : Shared} {a : Addr} {l : List Str}
def SetX (P : Program) (w : World) (h : Heap) (a : Addr) (l : List Str) : Prop :=
  ∃ (o : Obj) (es : Array (Int × Value)) (ep : Nat) (t : SetTable), (h.get? a = some o ∧ o.ExactSet ∧ o.data = .set es ep t) ∧ ElemsOf (PySem.strKind P w) es.toList ∧ ((es.toList.map kyS).Perm l ∧ l.Nodup) ∧
    (l.length < scanBound ∧ t.fits es.size = true) ∧ Ris t.place.toList ∧ (w.params.followText "set-order" = true ∨ t.led = true)
theorem el_str {L : List (Int × Value)} (h : ElemsOf (PySem.strKind P w) L) {e : Int × Value} (m : e ∈ L) : ∃ u, e.2 = Value.str (kyS e) u := by
  obtain ⟨⟨k, hk, _⟩, _⟩ := h e m
  obtain ⟨i, v⟩ := e
  have hk : Value.isStrOf k v = true := hk
  cases v <;> first | exact ⟨_, rfl⟩ | cases hk
theorem is_kyS {L : List (Int × Value)} (h : ElemsOf (PySem.strKind P w) L) {e : Int × Value} (m : e ∈ L) (k : Str) : (PySem.strKind P w).is k e.2 = true ↔ kyS e = k := by
  obtain ⟨u, hu⟩ := el_str h m
  rw [hu]
  show Value.isStrOf k (.str (kyS e) u) = true ↔ _
  simp only [Value.isStrOf, beq_iff_eq]
theorem SetX.at {h h' : Heap} (R : SetX P w h a l) (k : ∀ o, h.get? a = some o → h'.get? a = some o) : SetX P w h' a l := by
  obtain ⟨o, es, ep, t, ⟨g1, g2⟩, r⟩ := R
  exact ⟨o, es, ep, t, ⟨k _ g1, g2⟩, r⟩
/-- the table laid anew, if it is full -/
theorem setX_tail {f : Bool → Sem Unit} (hf : ∀ (b : Bool) (z : Shared) (Q : Unit → Shared → Prop), Q () z → wpAny (model P w) A (f b) Q E z) {o : Obj} {es : Array (Int × Value)} {ep : Nat} {t : SetTable}
    (ho : s.heap.get? a = some o) (hx : o.ExactSet) (hd : o.data = .set es ep t) {fs : Array (Int × Value)} {u : SetTable} (el : ElemsOf (PySem.strKind P w) fs.toList) (pm : (fs.toList.map kyS).Perm l) (nd : l.Nodup)
    (hl : l.length < scanBound) (hu : u.fits fs.size = true) (hr : Ris u.place.toList) (hw : w.params.followText "set-order" = true ∨ u.led = true) {old : Bool} {R : Option Bool → Shared → Prop}
    (hR : ∀ h', Heap.SameBut a s.heap h' → SetX P w h' a l → R (some true) { s with heap := h' }) :
    wpAny (model P w) A (do
      storeSet a fs u
      if (!old && u.tooFull) = true then do
        f (relayAll u fs (SetTable.grown fs.size)).2.2
        storeSet a (relayAll u fs (SetTable.grown fs.size)).1 (relayAll u fs (SetTable.grown fs.size)).2.1
        pure (some true)
      else pure (some true)) R E s := by
  have hsz : fs.size = l.length := by rw [← Array.length_toList, ← pm.length_eq, List.length_map]
  have hb : fs.size < scanBound := by omega
  have st1 := store_at (es' := fs) (t' := u) ho hd
  have sm1 := Heap.SameBut.update s.heap a (Obj.putSet fs u)
  refine wpAny_bind (wpAny_storeSet_of ho hd ?_ (fits_of_scanBound hb))
  by_cases c : (!old && u.tooFull) = true
  · rw [if_pos c]
    have q1 := relayAll_perm u fs (SetTable.grown fs.size)
    have q2 := relayAll_fits u fs (SetTable.grown fs.size)
    have q3 := relayAll_ris u fs (SetTable.grown fs.size)
    have q4 := relayAll_led u fs (SetTable.grown fs.size)
    generalize relayAll u fs (SetTable.grown fs.size) = Z at q1 q2 q3 q4 ⊢
    obtain ⟨gs, v, gave⟩ := Z
    have q1 : gs.toList.Perm fs.toList := q1
    have hz : gs.size = fs.size := by rw [← Array.length_toList, q1.length_eq, Array.length_toList]
    refine wpAny_bind (hf _ _ _ (wpAny_bind (wpAny_storeSet_of st1 rfl ?_ (fits_of_scanBound (by show gs.size < _; omega)))))
    have st2 := store_at (es' := gs) (t' := v) st1 rfl
    refine wpAny_pure (hR _ (sm1.trans (Heap.SameBut.update _ a _)) ⟨_, gs, _, v, ⟨st2, hx, rfl⟩, el.perm q1, ⟨(q1.map kyS).trans pm, nd⟩, ⟨hl, q2⟩, q3, ?_⟩)
    exact hw.imp id fun z => q4.trans z
  · rw [if_neg c]
    exact wpAny_pure (hR _ sm1 ⟨_, fs, _, u, ⟨st1, hx, rfl⟩, el, ⟨pm, nd⟩, ⟨hl, hu⟩, hr, hw⟩)
theorem setX_add {k : Str} {u : Tok} {Q : Bool → Shared → Prop} (R : SetX P w s.heap a l) (room : l.length + 1 < scanBound) (h1 : k ∈ l → Q false s)
    (h2 : k ∉ l → ∀ h', Heap.SameBut a s.heap h' → SetX P w h' a (k :: l) → Q true { s with heap := h' }) : wpAny (model P w) A (setAddHashed a (.str k u) ((PySem.strKind P w).hash k)) Q E s := by
  obtain ⟨o, es, ep, t, ⟨ho, hx, hd⟩, el, ⟨pm, nd⟩, ⟨hl, hf⟩, hr, hw⟩ := R
  have hsz : es.size = l.length := by rw [← Array.length_toList, ← pm.length_eq, List.length_map]
  have hb : es.size < scanBound := by omega
  have key : (PySem.strKind P w).is k (.str k u) = true := strKind_is P w k u
  unfold setAddHashed setAddHashedIn
  refine wpAny_holding (wpAny_bind (wpAny_setState_of ho hd hf ?_))
  dsimp only
  rw [byScan_of (show (Value.str k u).scannable = true from rfl) hb el, if_pos rfl]
  unfold setAddByScan
  refine wpAny_bind (wpAny_bind (wpAny_rule (wpAny_bind (wpAny_setScan_of key ho hd hf el ?_))))
  cases hi : List.findIdx? (fun e => (PySem.strKind P w).is k e.2) es.toList with
  | some j =>
    obtain ⟨hj, pj, _⟩ := List.findIdx?_eq_some_iff_getElem.mp hi
    have hk : k ∈ l := pm.mem_iff.mp (List.mem_map.mpr ⟨_, List.getElem_mem hj, (is_kyS el (List.getElem_mem hj) k).mp pj⟩)
    exact wpAny_pure (wpAny_pure (h1 hk))
  | none =>
    have hk : k ∉ l := fun z => by
      obtain ⟨e, he, q⟩ := List.mem_map.mp (pm.mem_iff.mpr z)
      have c := List.findIdx?_eq_none_iff.mp hi e he
      rw [(is_kyS el he k).mpr q] at c
      cases c
    have gw : ∀ (b : Bool) {z : Shared} {R' : Unit → Shared → Prop}, R' () z → wpAny (model P w) A (match b with | true => rule "set.scan.the-table-gave-way" | false => pure ()) R' E z := fun b z R' q => by
      cases b
      · exact wpAny_pure q
      · exact wpAny_rule q
    have p1 := layNew_perm t es ((PySem.strKind P w).hash k) (.str k u)
    have p2 := layNew_fits t es ((PySem.strKind P w).hash k) (.str k u)
    have p3 := layNew_ris t es ((PySem.strKind P w).hash k) (.str k u) hr
    have p4 := layNew_led t es ((PySem.strKind P w).hash k) (.str k u)
    dsimp only
    generalize layNew t es ((PySem.strKind P w).hash k) (.str k u) = Z at p1 p2 p3 p4 ⊢
    obtain ⟨fs, t1, old, gave⟩ := Z
    dsimp only at p1 p2 p3 p4 ⊢
    rw [Array.toList_push] at p1
    have pc := p1.trans (List.perm_append_singleton ((PySem.strKind P w).hash k, Value.str k u) es.toList)
    have el1 : ElemsOf (PySem.strKind P w) fs.toList := fun e he => by
      rcases List.mem_cons.mp (pc.mem_iff.mp he) with rfl | z
      · exact ⟨⟨k, key, rfl⟩, rfl⟩
      · exact el e z
    have pk : (fs.toList.map kyS).Perm (k :: l) := (pc.map kyS).trans (pm.cons k)
    have nk : (k :: l).Nodup := List.nodup_cons.mpr ⟨hk, nd⟩
    have wl : w.params.followText "set-order" = true ∨ t1.led = true := hw.imp id fun z => p4.trans z
    refine wpAny_bind (gw _ ?_)
    by_cases c : t1.plain = true
    · rw [if_pos c]
      refine wpAny_bind ?_
      rw [hashByValue_scannable 8 (x := Value.str k u) rfl]
      refine wpAny_pure (setX_tail (fun b z R' q => gw b q) ho hx hd el1 pk nk room ?_ ?_ ?_ fun h' sb r => wpAny_pure (h2 hk h' sb r))
      · first | exact p2 | exact SetTable.fits_plain_off p2
      · exact p3
      · exact wl
    · rw [if_neg c]
      refine wpAny_bind (wpAny_pure ?_)
      exact setX_tail (fun b z R' q => gw b q) ho hx hd el1 pk nk room p2 p3 wl fun h' sb r => wpAny_pure (h2 hk h' sb r)
end
end Fm
/-! set(texts), sorted(set of texts) -/
namespace Fm
open PySem PySem.Spec PyProof.Rows L2
section
variable {P : Program} {w : World} {A : Around} {s : Shared}
theorem setX_bare {h : Heap} {a : Addr} (e : h.get? a = some (bareSet w)) : SetX P w h a [] :=
  ⟨_, #[], 0, _, ⟨e, ⟨rfl, rfl, rfl⟩, rfl⟩, fun x hx => (by cases hx), ⟨.nil, List.nodup_nil⟩, ⟨by decide, rfl⟩, List.Pairwise.nil, by
    show _ ∨ (!w.params.followText "set-order") = true
    cases w.params.followText "set-order"
    · exact .inr rfl
    · exact .inl rfl⟩
theorem adds_strs {S : Addr} {h0 : Heap} {items : Array Value} {ks : List Str} (hit : ∀ (i : Nat) (v : Value), items[i]? = some v → ∃ k tk, v = Value.str k tk ∧ ks[i]? = some k) (hfew : items.size < 1000) :
    Adds P w A S h0 items.size (fun i v => items[i]? = some v) fun i h => ∃ l, SetX P w h S l ∧ (∀ k, k ∈ l ↔ k ∈ ks.take i) ∧ l.length ≤ i where
  still := fun {i h h'} ⟨l, R, m⟩ k _ => ⟨l, R.at k, m⟩
  add := by
    intro i v s E Q hi hv hI kp hQ
    obtain ⟨l, R, hm, hl⟩ := hI
    obtain ⟨k, tk, rfl, hk⟩ := hit i v hv
    have ht : ∀ z, z ∈ ks.take (i + 1) ↔ z ∈ ks.take i ∨ z = k := fun z => by rw [List.take_add_one, hk, List.mem_append]; simp
    unfold setAdd
    refine wpAny_holding ?_
    refine wpAny_bind ((PySem.strKind P w).pyHash (strKind_is P w k tk) ?_)
    refine setX_add (s := { s with toks := s.toks + 1 }) R (by unfold scanBound; omega) (fun hin => ?_) (fun hnot h' sb R' => ?_)
    · refine hQ _ s.heap _ (Heap.SameBut.refl S s.heap) ⟨l, R, fun z => ?_, by omega⟩ (Nat.le_succ _)
      rw [ht z, ← hm z]
      exact ⟨.inl, fun q => q.elim id fun e => e ▸ hin⟩
    · refine hQ _ h' _ sb ⟨k :: l, R', fun z => ?_, by rw [List.length_cons]; omega⟩ (Nat.le_succ _)
      rw [ht z, ← hm z, List.mem_cons]
      exact ⟨fun q => q.elim .inr .inl, fun q => q.elim .inr .inl⟩
end
def SetXO (P : Program) (w : World) (a : Addr) (l : List Str) : HO := .ext fun h => SetX P w h a l
theorem setXO_new {P : Program} {w : World} {H : Hp} {h : Heap} {a : Addr} {l : List Str} (R : SetX P w h a l) : ObjOk P w H h a (SetXO P w a l) := by
  have ⟨o, _, _, _, ⟨ho, _⟩, _⟩ := R
  exact ⟨R, ⟨o, ho⟩, fun h1 h2 p k => by
    obtain ⟨o, es, ep, t, ⟨g1, g2⟩, r⟩ := p
    exact ⟨o, es, ep, t, ⟨k _ g1, g2⟩, r⟩⟩
section
variable {X : Cx} {K : PySem.W.Frag} {P : Program} {w : World}
/-- set(xs), xs a list of texts -/
def rSetS (K : PySem.W.Frag) (P : Program) (w : World) : List V → Hp → VK → Prop := fun xs H Q => ∃ (l : Addr) (ks : List Str), xs = [V.ref l] ∧ SqL K H l (ks.map V.str) ∧ ks.length < 1000 ∧
  ∀ (a : Addr) (L : List Str), H a = none → L.Nodup → (∀ k, k ∈ L ↔ k ∈ ks) → Q (.ref a) (upd H a (SetXO P w a L))
theorem strs_at {its : List Value} {ks : List Str} (rv : Vals (ks.map V.str) its) : ∀ (i : Nat) (v : Value), its.toArray[i]? = some v → ∃ k tk, v = Value.str k tk ∧ ks[i]? = some k := by
  generalize hm : ks.map V.str = ms at rv
  induction rv generalizing ks with
  | nil => intro i v e; rw [List.getElem?_toArray] at e; cases e
  | cons h1 _ ih =>
    intro i v e
    rw [List.getElem?_toArray] at e
    cases ks with
    | nil => cases hm
    | cons n ns =>
      rw [List.map_cons] at hm
      injection hm with h2 h3
      subst h2
      cases i with
      | zero =>
        cases e
        obtain ⟨t, ht⟩ := h1
        exact ⟨n, t, ht, rfl⟩
      | succ i =>
        obtain ⟨k, tk, e1, e2⟩ := ih h3 i v (by rw [List.getElem?_toArray]; exact e)
        exact ⟨k, tk, e1, e2⟩
theorem kc_setS (h : X.K = K) (hP : X.prog = P) (hw : X.w = w) (hc : X.calm = true) : CallR X (.type "set") (rSetS K P w) := by
  subst h hP hw
  intro pins s σ H xs us Q I r h
  obtain ⟨l, ks, rfl, hl, hf, q⟩ := h
  rw [Vals.ref1 r]
  obtain ⟨its, rv, pl, hz⟩ := I.list hl
  have hsz : its.toArray.size = ks.length := by rw [List.size_toArray, ← rv.length, List.length_map]
  have hn : H s.heap.objs.size = none := I.hok.fresh (Nat.le_refl _)
  refine call_set_gen (w := X.w) (Iv := fun i h => ∃ L, SetX X.prog X.w h s.heap.objs.size L ∧ (∀ k, k ∈ L ↔ k ∈ ks.take i) ∧ L.length ≤ i) (I.ok.hd hc) pl.isList (fun A' _ _ => adds_strs (strs_at rv) (by omega)) (fun h e _ => ⟨[], setX_bare e, fun k => by simp, Nat.le_refl _⟩) fun h' tk ⟨L, R, hm, _⟩ kp => ?_
  rw [hsz, List.take_length] at hm
  have nd : L.Nodup := by
    obtain ⟨_, _, _, _, _, _, ⟨_, n⟩, _⟩ := R
    exact n
  exact ⟨.ref s.heap.objs.size, _, I.laid (t' := tk) kp (Nat.le_refl _) (setXO_new R), rfl, q _ L hn nd hm⟩
/-- sorted(set of texts) -/
def rSortedSetS (P : Program) (w : World) : List V → Hp → VK → Prop := fun vs H Q => ∃ (a : Addr) (L : List Str), vs = [V.ref a] ∧ H a = some (SetXO P w a L) ∧ L.length < 64 ∧
  ∀ (ys : List Str) (p : Addr), ys.Perm L → sortedS ys = true → H p = none → Q (.ref p) (upd H p (.lst (ys.map V.str)))
theorem kc_sortedSetS (hP : X.prog = P) (hw : X.w = w) (hc : X.calm = true) : CallR X (.builtin "sorted") (rSortedSetS P w) := by
  subst hP hw
  intro pins s σ H vs us Q I r h
  obtain ⟨a, L, rfl, ha, h64, q⟩ := h
  obtain ⟨o, es, ep, t, ⟨ho, hx, hd⟩, el, ⟨pm, nd⟩, ⟨hl, hf⟩, hr, hw⟩ : SetX X.prog X.w s.heap a L := (I.hok a _ ha).1
  have hez : es.size = L.length := by rw [← Array.length_toList, ← pm.length_eq, List.length_map]
  rw [Vals.ref1 r]
  refine Calls.call_function_entry kind_sorted plain_sorted entry_sorted (args_sorted1 _) ?_
  unfold Builtin.«sorted»
  refine wpAny_bind (m := checkCount "sorted" 1 1 _) (wpAny_pure (wpAny_bind (collect_set (A := X.A.in1) (I.ok.hd hc) ⟨o, ho, hx.1, hd⟩ hf (by omega) hr hw fun z vs k1 hz g1 o1 pv => ?_)))
  have hvl : vs.length = L.length := by rw [pv.length_eq, List.length_map, Array.length_toList, hez]
  have hst : ∀ {us : List Value}, (∀ v ∈ us, ∃ k u, v = Value.str k u) → StrsAre us (us.map strOf) := by
    intro us
    induction us with
    | nil => exact fun _ => .nil
    | cons v us ih =>
      intro hv
      obtain ⟨k, u, rfl⟩ := hv v List.mem_cons_self
      exact .cons k u (ih fun x hx => hv x (List.mem_cons_of_mem _ hx))
  have hS : StrsAre vs (vs.map strOf) := hst fun v hv => by
    obtain ⟨e, he, rfl⟩ := List.mem_map.mp (pv.mem_iff.mp hv)
    obtain ⟨u, hu⟩ := el_str el he
    exact ⟨_, u, hu⟩
  have pk : (vs.map strOf).Perm L := by
    have q1 := pv.map strOf
    rw [List.map_map] at q1
    refine (q1.trans ?_).trans pm
    rw [List.map_congr_left (g := kyS) fun e he => ?_]
    obtain ⟨u, hu⟩ := el_str el he
    show strOf e.2 = kyS e
    rw [hu]
    rfl
  refine wpAny_bind (wpAny_newList ?_ (by rw [hvl, sizeLine_eq]; omega))
  have hoL : (z.heap.push (seqObj "list" vs.toArray 0)).get? z.heap.objs.size = some (seqObj "list" vs.toArray 0) := Heap.get?_push_size _ rfl
  refine wpAny_bind (wpAny_holding (wpAny_call_entry PyProof.Rows.slot_list_sort ⟨_, hoL, rfl⟩ PyProof.Rows.entry_list_sort
    (list_sort_treeK strKind_oneLt hoL hS.keysOf (fun v₁ v₂ rest e => keyKind_strs (by rw [← e]; exact hS)) (by rw [hvl]; exact h64) fun st' hp hs => ⟨_, rfl, ?_⟩) (PyProof.Rows.args_list_sort _)))
  obtain ⟨ys, b1, b2, b3⟩ := sorted_out_str hS hp hs
  obtain ⟨c, hc'⟩ := PyProof.Rows.sortedHeap_at (vs := vs) (out := (arrOf st').map (·.2)) hoL
  have hlen : (ys.map V.str).length ≤ sizeLine := by rw [List.length_map, b2.length_eq, pk.length_eq, sizeLine_eq]; omega
  have kk : ∀ b u, s.heap.get? b = some u → (PyProof.Rows.sortedHeap (z.heap.push (seqObj "list" vs.toArray 0)) z.heap.objs.size vs ((arrOf st').map (·.2))).get? b = some u := fun b u e => by
    have e1 := k1 b u e
    have lt := Heap.lt_size e1
    rw [PyProof.Rows.sortedHeap_old (Nat.ne_of_lt lt) (by rw [size_push']; exact Nat.lt_succ_of_lt lt)]
    exact Heap.get?_push_of_some _ e1
  have hn : H z.heap.objs.size = none := I.hok.fresh hz
  have J : Inv X pins σ (upd H z.heap.objs.size (.lst (ys.map V.str))) { s with heap := PyProof.Rows.sortedHeap (z.heap.push (seqObj "list" vs.toArray 0)) z.heap.objs.size vs ((arrOf st').map (·.2)), gens := z.gens, drawn := z.drawn, toks := z.toks } :=
    I.call (ch := []) (Un.laid kk hz hn) (I.hok.laid kk hz ⟨hlen, ((arrOf st').map (·.2)).toList, c, vals_of_strs b1, by rw [Array.toArray_toList]; exact hc'⟩) (by rw [g1]; exact I.bare) (fun _ z => nomatch z)
  cases z
  cases s
  simp only at o1
  subst o1
  exact wpAny_pure ⟨_, rfl, .ref _, _, J, rfl, q ys _ (b2.trans pk) b3 hn⟩
end
end Fm
/-! sorted texts are one -/
namespace Fm
open PySem PySem.Spec PyProof.Rows L2
abbrev tS (l : List Nat) : Str := ⟨l.toArray⟩
theorem rising_pw : ∀ (r : List (List Nat)) (p : List Nat), risingS (tS p) (r.map tS) = true → (p :: r).Pairwise (fun a b => a ≤ b)
  | [], p, _ => List.pairwise_cons.mpr ⟨fun _ h => (nomatch h), .nil⟩
  | x :: r, p, h => by
    have h : (!ltCps (tS x).cps.toList (tS p).cps.toList && risingS (tS x) (r.map tS)) = true := h
    rw [Bool.and_eq_true] at h
    have h1 := rising_pw r x h.2
    have h2 : p ≤ x := by
      have q := h.1
      rw [ltCps_eq] at q
      simp only [List.toList_toArray, Bool.not_eq_true', decide_eq_false_iff_not] at q
      exact List.not_lt.mp q
    refine List.pairwise_cons.mpr ⟨fun y hy => ?_, h1⟩
    rcases List.mem_cons.mp hy with rfl | hy
    · exact h2
    · exact List.le_trans h2 ((List.pairwise_cons.mp h1).1 y hy)
theorem sorted_pw {l : List (List Nat)} (h : sortedS (l.map tS) = true) : l.Pairwise (fun a b => a ≤ b) := by
  cases l with
  | nil => exact .nil
  | cons x r => exact rising_pw r x h
theorem srtS_eq {l m : List (List Nat)} (p : l.Perm m) (a : sortedS (l.map tS) = true) (b : sortedS (m.map tS) = true) : l = m :=
  List.Perm.eq_of_pairwise (fun _ _ _ _ x y => List.le_antisymm x y) (sorted_pw a) (sorted_pw b) p
/-- text.startswith(r, i) -/
theorem starts3 (t r : List Nat) (i : Nat) (hi : i ≤ t.length) : Txt.startswith3 (tS t) (tS r) (i : Int) = decide ((t.drop i).take r.length = r) := by
  unfold Txt.startswith3 fromIndex
  have e1 : (tS t).length = t.length := by show t.toArray.size = _; rw [List.size_toArray]
  have e2 : (tS r).length = r.length := by show r.toArray.size = _; rw [List.size_toArray]
  have e3 : (max 0 (if (i : Int) < 0 then (i : Int) + ((tS t).length : Int) else (i : Int))).toNat = i := by
    rw [if_neg (by omega)]; omega
  rw [e3, e1, e2]
  unfold PySem.Builtin.Str.subAt
  rw [e2]
  by_cases h : i + r.length ≤ t.length
  · rw [decide_eq_true h, Bool.true_and]
    show (t.toArray.extract i (i + r.length) == r.toArray) = _
    rw [List.extract_toArray, Bool.eq_iff_iff, beq_iff_eq, decide_eq_true_eq]
    have e4 : List.extract t i (i + r.length) = (t.drop i).take r.length := by
      unfold List.extract
      rw [show i + r.length - i = r.length by omega]
    rw [e4]
    exact ⟨fun z => by injection z, fun z => by rw [z]⟩
  · rw [decide_eq_false h, Bool.false_and]
    symm
    refine decide_eq_false fun z => h ?_
    have := congrArg List.length z
    rw [List.length_take, List.length_drop] at this
    omega
end Fm
/-! lists of tuples by keys; edits -/
namespace Fm
open PySem PySem.Spec PyProof.Rows L2
theorem tl_of {α : Type} {r : Rp α} {H : Hp} (f : α → List Key) (hr : ∀ v x, r H v x → ∃ a, v = .ref a ∧ H a = some (.tup ((f x).map kV))) : ∀ {vs : List V} {xs : List α}, Al r H vs xs →
    ∃ ks : TL, vs = ks.map (fun p => V.ref p.1) ∧ ks.length = xs.length ∧ ∀ p ∈ ks, ∃ x, x ∈ xs ∧ p.2 = f x ∧ H p.1 = some (.tup (p.2.map kV))
  | [], [], .nil => ⟨[], rfl, rfl, fun _ z => nomatch z⟩
  | _ :: _, x :: _, .cons h t => by
    obtain ⟨ks, e, hl, hk⟩ := tl_of f hr t
    obtain ⟨a, rfl, ha⟩ := hr _ _ h
    refine ⟨(a, f x) :: ks, by rw [e]; rfl, by rw [List.length_cons, List.length_cons, hl], fun p hp => ?_⟩
    rcases List.mem_cons.mp hp with rfl | hp
    · exact ⟨x, List.mem_cons_self, rfl, ha⟩
    · obtain ⟨x, hx, h1, h2⟩ := hk p hp
      exact ⟨x, List.mem_cons_of_mem _ hx, h1, h2⟩
theorem tl_back {α : Type} {r : Rp α} {H : Hp} (f : α → List Key) (hf : ∀ a x, H a = some (.tup ((f x).map kV)) → r H (.ref a) x) (xs : List α) : ∀ L : TL, (∀ p ∈ L, ∃ x, x ∈ xs ∧ p.2 = f x ∧ H p.1 = some (.tup (p.2.map kV))) →
    ∃ ys, Al r H (L.map fun p => V.ref p.1) ys ∧ (∀ y ∈ ys, y ∈ xs) ∧ ys.map f = L.map (·.2)
  | [], _ => ⟨[], .nil, (fun _ z => nomatch z), rfl⟩
  | p :: L, h => by
    obtain ⟨ys, h1, h2, h3⟩ := tl_back f hf xs L fun q hq => h q (List.mem_cons_of_mem _ hq)
    obtain ⟨x, hx, e, hp⟩ := h p List.mem_cons_self
    rw [e] at hp
    refine ⟨x :: ys, .cons (hf _ _ hp) h1, fun y hy => ?_, by rw [List.map_cons, List.map_cons, h3, e]⟩
    rcases List.mem_cons.mp hy with rfl | hy
    · exact hx
    · exact h2 y hy
/-- a list whose own address is not in N -/
def rLa (N : List Addr) {α : Type} (r : Rp α) : Rp (List α) := fun H v l => ∃ a xs, v = .ref a ∧ H a = some (.lst xs) ∧ Al r H xs l ∧ a ∉ N
class Ma (N : List Addr) {α : Type} (r : Rp α) : Prop where
  ma : ∀ {H H' : Hp} {v : V} {x : α}, Fx N H H' → r H v x → r H' v x
instance (priority := low) {N : List Addr} {α : Type} {r : Rp α} [Mo r] : Ma N r := ⟨fun f h => Mo.mo (r := r) f h⟩
theorem Al.ma {N : List Addr} {α : Type} {r : Rp α} [Ma N r] {H H' : Hp} {xs : List V} {l : List α} (f : Fx N H H') (h : Al r H xs l) : Al r H' xs l := L2.Paired.mapP h fun _ _ q => Ma.ma (r := r) f q
instance {N : List Addr} {α : Type} {r : Rp α} [Ma N r] : Ma N (rLa N r) := ⟨fun f ⟨a, xs, e, h, h1, n⟩ => ⟨a, xs, e, f.keep _ _ n h, Al.ma f h1, n⟩⟩
theorem Al.imp {α : Type} {r r' : Rp α} {H : Hp} {xs : List V} {l : List α} (h : Al r H xs l) (q : ∀ v x, r H v x → r' H v x) : Al r' H xs l := L2.Paired.mapP h fun _ _ z => q _ _ z
theorem rLa.to {N : List Addr} {α : Type} {r r' : Rp α} {H : Hp} {v : V} {l : List α} (h : rLa N r H v l) (q : ∀ v x, r H v x → r' H v x) : rL r' H v l := by
  obtain ⟨a, xs, e, h1, h2, _⟩ := h
  exact ⟨a, xs, e, h1, h2.imp q⟩
theorem rLa.more {N : List Addr} {α : Type} {r r' : Rp α} {H : Hp} {v : V} {l : List α} {T : Addr} (h : rLa N r H v l) (hT : H T = none) (q : ∀ v x, r H v x → r' H v x) : rLa (N ++ [T]) r' H v l := by
  obtain ⟨a, xs, e, h1, h2, n⟩ := h
  refine ⟨a, xs, e, h1, h2.imp q, fun z => ?_⟩
  rcases List.mem_append.mp z with z | z
  · exact n z
  · rw [List.mem_singleton.mp z, hT] at h1; cases h1
theorem rLa.sub {N N' : List Addr} {α : Type} {r r' : Rp α} {H : Hp} {v : V} {l : List α} (h : rLa N r H v l) (s : ∀ x ∈ N', x ∈ N) (q : ∀ v x, r H v x → r' H v x) : rLa N' r' H v l := by
  obtain ⟨a, xs, e, h1, h2, n⟩ := h
  exact ⟨a, xs, e, h1, h2.imp q, fun z => n (s _ z)⟩
def rP4 {α β γ δ : Type} (r : Rp α) (q : Rp β) (t : Rp γ) (u : Rp δ) : Rp (α × β × γ × δ) := fun H v p => ∃ a x y z w, v = .ref a ∧ H a = some (.tup [x, y, z, w]) ∧ r H x p.1 ∧ q H y p.2.1 ∧ t H z p.2.2.1 ∧ u H w p.2.2.2
instance {α β γ δ : Type} {r : Rp α} {q : Rp β} {t : Rp γ} {u : Rp δ} [Me r] [Me q] [Me t] [Me u] : Me (rP4 r q t u) :=
  ⟨fun f ⟨a, x, y, z, w, e, h, h1, h2, h3, h4⟩ => ⟨a, x, y, z, w, e, f.k h, Me.me (r := r) f h1, Me.me (r := q) f h2, Me.me (r := t) f h3, Me.me (r := u) f h4⟩⟩
instance {N : List Addr} {α β γ δ : Type} {r : Rp α} {q : Rp β} {t : Rp γ} {u : Rp δ} [Ma N r] [Ma N q] [Ma N t] [Ma N u] : Ma N (rP4 r q t u) :=
  ⟨fun f ⟨a, x, y, z, w, e, h, h1, h2, h3, h4⟩ => ⟨a, x, y, z, w, e, f.tups _ _ h, Ma.ma (r := r) f h1, Ma.ma (r := q) f h2, Ma.ma (r := t) f h3, Ma.ma (r := u) f h4⟩⟩
theorem rP4.imp {α β γ δ : Type} {r : Rp α} {q : Rp β} {t : Rp γ} {u u' : Rp δ} {H : Hp} {v : V} {p : α × β × γ × δ} (h : rP4 r q t u H v p) (k : ∀ v x, u H v x → u' H v x) : rP4 r q t u' H v p := by
  obtain ⟨a, x, y, z, w, e, h, h1, h2, h3, h4⟩ := h
  exact ⟨a, x, y, z, w, e, h, h1, h2, h3, k _ _ h4⟩
theorem Fx.of_fx {H H1 H' : Hp} {R : Addr} (e : Fe H H1) (f : Fx [R] H1 H') (hR : H R = none) : Fe H H' :=
  ⟨fun a o _ h => f.keep a o (fun z => by rw [List.mem_singleton.mp z, hR] at h; cases h) (e.k h), fun a xs h => f.tups a xs (e.k h)⟩
abbrev rEd : Rp (List Nat × List Nat × Nat) := rP3 rS rS rN
def edK (e : List Nat × List Nat × Nat) : List Key := [kS e.1, kS e.2.1, kN e.2.2]
theorem ed_key {H : Hp} {v : V} {e : List Nat × List Nat × Nat} (h : rEd H v e) : ∃ a, v = .ref a ∧ H a = some (.tup ((edK e).map kV)) := by
  obtain ⟨a, x, y, z, rfl, ha, rfl, rfl, rfl⟩ := h
  exact ⟨a, rfl, ha⟩
theorem ed_back {H : Hp} {a : Addr} {e : List Nat × List Nat × Nat} (h : H a = some (.tup ((edK e).map kV))) : rEd H (.ref a) e := ⟨a, _, _, _, rfl, h, rfl, rfl, rfl⟩
/-- a list of tuples, as sorted takes it and gives it back -/
theorem tl_sort {α : Type} {r : Rp α} {H : Hp} (K : PySem.W.Frag) {xs : List V} {l : List α} {sh : List Bool} (f : α → List Key) (hr : ∀ v x, r H v x → ∃ a, v = .ref a ∧ H a = some (.tup ((f x).map kV))) (hsh : ∀ x, shOf (f x) = sh) (al : Al r H xs l) :
    ∃ ps : TL, xs = ps.map (fun p => V.ref p.1) ∧ (∀ p ∈ ps, SqT K H p.1 (p.2.map kV) ∧ shOf p.2 = sh) ∧ ∀ ps' : TL, ps'.Perm ps → ∃ l', l'.Perm l ∧ Al r H (ps'.map fun p => V.ref p.1) l' := by
  obtain ⟨ps, rfl, _, h⟩ := tl_of f hr al
  refine ⟨ps, rfl, fun p hp => ?_, fun ps' pm => al_perm (pm.map _) al⟩
  obtain ⟨x, _, e1, e2⟩ := h p hp
  exact ⟨SqT.of e2, by rw [e1]; exact hsh x⟩
end Fm
namespace Fm
open PySem L2
/-! ### states_behind, states_along -/
abbrev Web := List (List (Nat × Nat))
def Lead (E : Nat → Nat → Nat → Prop) : List Nat → Nat → Nat → Prop
  | [], q, p => q = p
  | c :: t, q, p => ∃ r, E q c r ∧ Lead E t r p
theorem Lead.snoc {E : Nat → Nat → Nat → Prop} {c : Nat} : ∀ {t : List Nat} {q p : Nat}, Lead E (t ++ [c]) q p ↔ ∃ r, Lead E t q r ∧ E r c p
  | [], q, p => by
    constructor
    · rintro ⟨r, h, rfl⟩; exact ⟨q, rfl, h⟩
    · rintro ⟨r, rfl, h⟩; exact ⟨p, h, rfl⟩
  | d :: t, q, p => by
    constructor
    · rintro ⟨r, h, h2⟩
      obtain ⟨u, h3, h4⟩ := Lead.snoc.mp h2
      exact ⟨u, ⟨r, h, h3⟩, h4⟩
    · rintro ⟨u, ⟨r, h, h3⟩, h4⟩
      exact ⟨r, h, Lead.snoc.mpr ⟨u, h3, h4⟩⟩
theorem lead_lt {E : Nat → Nat → Nat → Prop} {N : Nat} (hE : ∀ q c p, E q c p → p < N) : ∀ {t : List Nat} {q p : Nat}, q < N → Lead E t q p → p < N
  | [], _, _, h, e => by cases e; exact h
  | _ :: _, _, _, _, ⟨_, h1, h2⟩ => lead_lt hE (hE _ _ _ h1) h2
/-- a web of at most 60 nodes -/
structure WOk (web : Web) : Prop where
  few : web.length ≤ 60
  ok : ∀ row ∈ web, ∀ p ∈ row, p.2 < web.length
def spStatesBehind : Sp := fun vs H Q _ => ∃ (web : Web) (qs : List Nat) (c : Nat) (v1 v2 : V), vs = [v1, v2, .str ⟨#[c]⟩] ∧ rL (rL (rP rC rN)) H v1 web ∧ rT rN H v2 qs ∧ WOk web ∧ (∀ q ∈ qs, q < web.length) ∧
  ∀ (v : V) (H' : Hp) (l : List Nat), Fe H H' → rT rN H' v l → l.Pairwise (· < ·) → (∀ t, t ∈ l ↔ ∃ q, q ∈ qs ∧ Ed web q c t) → Q v H'
theorem asc_lt {l : List Nat} (h : l.Pairwise (· ≤ ·)) (hn : l.Nodup) : l.Pairwise (· < ·) := by
  induction l with
  | nil => exact .nil
  | cons x l ih =>
    rw [List.pairwise_cons] at h ⊢
    rw [List.nodup_cons] at hn
    exact ⟨fun y hy => by have := h.1 y hy; have : x ≠ y := fun e => hn.1 (e ▸ hy); omega, ih h.2 hn.2⟩
section
variable {P : Program} {w : World} {K : PySem.W.Frag} {g : Str → Option Value} {base : Heap}
theorem ok_states_behind (T : Txt K g) : FnOk P w K g base CX0 1 T.d_states_behind.f T.d_states_behind.fd P_states_behind spStatesBehind := by
  refine T.d_states_behind.F.ok sc_states_behind (fun vs H Q E h => ?_) (fun cdv A outer s H vs Q E hr h => ?_)
  · obtain ⟨web, qs, c, v1, v2, rfl, _⟩ := h
    rfl
  · obtain ⟨web, qs, c, v1, v2, rfl, hw, hq, ok, hqs, kk⟩ := h
    have hu := hu_of hr
    refine ⟨_, (pss_cons (ps_set (i := 3) sc_states_behind.nd rfl (by first | exact Or.inl rfl | exact Or.inr rfl) pe_dnewK)
    (pss_cons (ps_for PassesOwn.never rfl (ki_tup (K := K) rfl (pv 1)) (pg_name (i := 4) sc_states_behind.nd rfl (by first | exact Or.inl rfl | exact Or.inr rfl))
      (pss_one (ps_for PassesOwn.never rfl (ki_list (K := K) rfl (pe_ix (kx_list (K := K) rfl) (pv 0) (pv 4) (fun _ _ => rfl))) (kg_tup (K := K) 2 rfl rfl (pgs_cons (pg_name (i := 5) sc_states_behind.nd rfl (by first | exact Or.inl rfl | exact Or.inr rfl)) (pgs_cons (pg_name (i := 6) sc_states_behind.nd rfl (by first | exact Or.inl rfl | exact Or.inr rfl)) pgs_nil)))
        (pss_one (ps_if (pt_cmpR op_eq (pv 5) (pv 2) (nomark _))
          (pss_one (ps_dput hu (pv 3) (pv 6) pe_bl rfl))
          pss_nil)))))
    (pss_one (ps_ret (pe_callTy (kc_tuple (K := K) rfl) (by rfl) T.z_tuple (by decide +kernel) (pa_cons (pe_callB (kc_sortedDI rfl) (by rfl) T.z_sorted (by decide +kernel) (pa_cons (pv 3) pa_nil)) pa_nil)))))), ?_⟩
    obtain ⟨a, cells, rfl, ha, hcells⟩ := id hw
    obtain ⟨b, sts, rfl, hb, hsts⟩ := id hq
    intro d hd
    have e0 : Fe H (upd H d (.dK [])) := Fe.new hd
    have hfew := ok.few
    refine ⟨_, rfl, b, rfl, ⟨_, SqT.of (e0.k hb)⟩, for_tup (K := K) (a := b) (xs := sts) (fun i σ' H' => ∃ (ks : List Nat) (o1 o2 o3 : Option V), σ' = [some (.ref a), some (.ref b), some (.str ⟨#[c]⟩), some (.ref d), o1, o2, o3] ∧ Fe H H' ∧
      H' d = some (.dK (tks kN ks)) ∧ ks.Nodup ∧ ∀ t, t ∈ ks ↔ ∃ q, q ∈ qs.take i ∧ Ed web q c t) ⟨[], none, none, none, rfl, e0, upd_same, List.nodup_nil, fun t => ⟨fun h => (nomatch h), fun ⟨q, h, _⟩ => (nomatch h)⟩⟩
      (fun i σ' H' _ ⟨_, _, _, _, _, e, _⟩ => SqT.of (e.k hb)) ?_ ?_⟩
    · rintro i x σ' H' hx ⟨ks, o1, o2, o3, rfl, e, hD, nd, hks⟩
      obtain ⟨q, hq, rfl⟩ := hsts.get hx
      have hqw := hqs q (List.mem_of_getElem? hq)
      have hwq : web[q]? = some web[q] := List.getElem?_eq_getElem hqw
      obtain ⟨rv, hrv, hrow⟩ := hcells.at hwq
      obtain ⟨r, its, rfl, hr2, hits⟩ := id hrow
      refine ⟨_, rfl, _, rfl, a, _, _, .ref r, rfl, rfl, SqL.of (e.k ha), atI_nat hrv, r, rfl, ⟨_, SqL.of (e.k hr2)⟩, for_lst (xs := its) (fun j σ' H' => ∃ (ks : List Nat) (o2 o3 : Option V), σ' = [some (.ref a), some (.ref b), some (.str ⟨#[c]⟩), some (.ref d), some (.int (q : Int)), o2, o3] ∧ Fe H H' ∧
        H' d = some (.dK (tks kN ks)) ∧ ks.Nodup ∧ ∀ t, t ∈ ks ↔ (∃ q, q ∈ qs.take i ∧ Ed web q c t) ∨ (c, t) ∈ web[q].take j) ⟨ks, o2, o3, rfl, e, hD, nd, fun t => by rw [hks t]; simp⟩ (fun j σ' H' _ ⟨_, _, _, _, e, _⟩ => e.k hr2) ?_ ?_⟩
      · rintro j x σ' H' hx ⟨ks, o2, o3, rfl, e, hD, nd, hks⟩
        obtain ⟨p, hp, hpr⟩ := hits.get hx
        obtain ⟨u, x1, x2, rfl, hu2, rfl, rfl⟩ := id hpr
        have htake : web[q].take (j + 1) = web[q].take j ++ [p] := by rw [List.take_add_one, hp]; rfl
        refine ⟨u, _, rfl, SqT.of (e.k hu2), rfl, _, _, rfl, _, _, rfl, rfl, ?_⟩
        refine ⟨_, rfl, _, rfl, rfl, _, rfl, ?_⟩
        by_cases hc : p.1 = c
        · rw [decide_eq_true (by rw [hc])]
          have hkl : ks.length ≤ 60 := by
            refine Nat.le_trans (nodup_below web.length ks nd fun t ht => ?_) hfew
            rcases (hks t).mp ht with ⟨q, _, row, h1, h2⟩ | h
            · exact ok.ok row (List.mem_of_getElem? h1) _ h2
            · exact ok.ok _ (List.mem_of_getElem? hwq) _ (List.mem_of_mem_take h)
          refine iteT ⟨_, rfl, _, rfl, d, _, rfl, DPut.k (k := kN p.2) hD (by rw [tks_len, sizeLine_eq]; omega), ?_⟩
          refine ⟨ins p.2 ks, _, _, rfl, e.mut hd, by rw [upd_same, tks_put kN kN_inj], nd_ins nd, fun t => ?_⟩
          rw [mem_ins, hks t, htake, List.mem_append, List.mem_singleton]
          constructor
          · rintro (rfl | h | h)
            · exact .inr (.inr (by rw [← hc]))
            · exact .inl h
            · exact .inr (.inl h)
          · rintro (h | h | h)
            · exact .inr (.inl h)
            · exact .inr (.inr h)
            · exact .inl (by rw [← h])
        · rw [decide_eq_false (by intro z; apply hc; have := V.str.inj z; have := congrArg Str.cps this; simpa using this)]
          refine iteF ⟨ks, _, _, rfl, e, hD, nd, fun t => ?_⟩
          rw [hks t, htake, List.mem_append, List.mem_singleton]
          constructor
          · rintro (h | h)
            · exact .inl h
            · exact .inr (.inl h)
          · rintro (h | h | h)
            · exact .inl h
            · exact .inr h
            · exact absurd (by rw [← h]) hc
      · rintro σ' H' ⟨ks, o2, o3, rfl, e, hD, nd, hks⟩
        refine ⟨ks, _, _, _, rfl, e, hD, nd, fun t => ?_⟩
        rw [hks t, hits.len, List.take_length, List.take_add_one, hq]
        constructor
        · rintro (⟨q', h, h2⟩ | h)
          · exact ⟨q', List.mem_append_left _ h, h2⟩
          · exact ⟨q, List.mem_append_right _ (List.mem_singleton.mpr rfl), _, hwq, h⟩
        · rintro ⟨q', h, row, h1, h2⟩
          rcases List.mem_append.mp h with h | h
          · exact .inl ⟨q', h, row, h1, h2⟩
          · have e2 : q' = q := List.mem_singleton.mp h
            subst e2
            rw [hwq] at h1; cases h1
            exact .inr h2
    · rintro σ' H' ⟨ks, o1, o2, o3, rfl, e, hD, nd, hks⟩
      have hkl : ks.length ≤ 60 := by
        refine Nat.le_trans (nodup_below web.length ks nd fun t ht => ?_) hfew
        obtain ⟨q, _, row, h1, h2⟩ := (hks t).mp ht
        exact ok.ok row (List.mem_of_getElem? h1) _ h2
      refine ⟨_, rfl, d, _, ks.map fun n : Nat => (n : Int), rfl, .inl hD, by rw [tks_keys, List.map_map]; rfl, by rw [List.length_map]; omega, fun ys p hp hs hnp => ?_⟩
      obtain ⟨l, rfl, hpm⟩ := perm_nats hp
      have e1 : Fe H' (upd H' p (.lst ((l.map fun n : Nat => (n : Int)).map V.int))) := Fe.new hnp
      refine ⟨p, _, rfl, .inl ⟨SqL.of upd_same, fun p2 hp2 => ?_⟩⟩
      refine kk _ _ l ((e.trans e1).trans (Fe.new hp2)) ⟨p2, _, rfl, upd_same, ?_⟩ ?_ fun t => ?_
      · rw [List.map_map]
        exact Al.ofNats l
      · refine asc_lt ?_ (hpm.nodup_iff.mpr nd)
        rw [List.pairwise_map] at hs
        exact hs.imp fun h => by omega
      · rw [hpm.mem_iff, hks t, List.take_of_length_le (by rw [hsts.len]; exact Nat.le_refl _)]
def spStatesAlong : Sp := fun vs H Q _ => ∃ (web : Web) (qs : List Nat) (t : List Nat) (v1 v2 : V), vs = [v1, v2, .str ⟨t.toArray⟩] ∧ rL (rL (rP rC rN)) H v1 web ∧ rT rN H v2 qs ∧ WOk web ∧ (∀ q ∈ qs, q < web.length) ∧ qs.Nodup ∧
  ∀ (v : V) (H' : Hp) (l : List Nat), Fe H H' → rT rN H' v l → l.Nodup → (∀ p, p ∈ l ↔ ∃ q, q ∈ qs ∧ Lead (Ed web) t q p) → Q v H'
theorem ok_states_along (T : Txt K g) : FnOk P w K g base CX0 2 T.d_states_along.f T.d_states_along.fd P_states_along spStatesAlong := by
  refine T.d_states_along.F.ok sc_states_along (fun vs H Q E h => ?_) (fun cdv A outer s H vs Q E hr h => ?_)
  · obtain ⟨web, qs, t, v1, v2, rfl, _⟩ := h
    rfl
  · obtain ⟨web, qs, t, v1, v2, rfl, hw, hq, ok, hqs, hnd, kk⟩ := h
    have hu := hu_of hr
    refine ⟨_, (pss_cons (ps_for PassesOwn.never rfl (pi_str (pv 2)) (pg_name (i := 3) sc_states_along.nd rfl (by first | exact Or.inl rfl | exact Or.inr rfl))
      (pss_one (ps_set (i := 1) sc_states_along.nd rfl (by first | exact Or.inl rfl | exact Or.inr rfl) (pe_call (ok_states_behind T) (hr.mono (by decide)) rfl T.d_states_behind.mg T.d_states_behind.kp T.d_states_behind.b .nil pass0 (pa_cons (pv 0) (pa_cons (pv 1) (pa_cons (pv 3) pa_nil)))))))
    (pss_one (ps_ret (pv 1)))), ?_⟩
    refine ⟨_, rfl, _, rfl, for_str (l := t) (fun i σ' H' => ∃ (v : V) (o : Option V) (l : List Nat), σ' = [some v1, some v, some (.str ⟨t.toArray⟩), o] ∧ Fe H H' ∧ rT rN H' v l ∧ l.Nodup ∧ ∀ p, p ∈ l ↔ ∃ q, q ∈ qs ∧ Lead (Ed web) (t.take i) q p)
      ⟨v2, none, qs, rfl, Fx.refl _ _, hq, hnd, fun p => ⟨fun h => ⟨p, h, rfl⟩, fun ⟨q, h, e⟩ => by have e : q = p := e; exact e ▸ h⟩⟩ ?_ ?_⟩
    · rintro i c σ' H' hc ⟨v, o, l, rfl, e, hl, hln, hm⟩
      refine ⟨_, rfl, _, rfl, _, rfl, web, l, c, v1, v, rfl, Me.go hw e, hl, ok, fun p hp => ?_, fun v' H2 l' e2 hl' hlt' hm' => ⟨v', _, l', rfl, e.trans e2, hl', hlt'.imp (fun h => by omega), fun p => ?_⟩⟩
      · obtain ⟨q, h1, h2⟩ := (hm p).mp hp
        exact lead_lt (fun q c p ⟨row, h3, h4⟩ => ok.ok row (List.mem_of_getElem? h3) _ h4) (hqs q h1) h2
      · rw [hm' p, List.take_add_one, hc]
        show _ ↔ ∃ q, q ∈ qs ∧ Lead (Ed web) (t.take i ++ [c]) q p
        constructor
        · rintro ⟨r, h1, h2⟩
          obtain ⟨q, h3, h4⟩ := (hm r).mp h1
          exact ⟨q, h3, Lead.snoc.mpr ⟨r, h4, h2⟩⟩
        · rintro ⟨q, h3, h4⟩
          obtain ⟨r, h5, h6⟩ := Lead.snoc.mp h4
          exact ⟨r, (hm r).mpr ⟨q, h3, h5⟩, h6⟩
    · rintro σ' H' ⟨v, o, l, rfl, e, hl, hln, hm⟩
      refine ⟨_, rfl, kk v H' l e hl hln fun p => ?_⟩
      rw [hm p, List.take_of_length_le (Nat.le_refl _)]
/-! ### rests_of -/
/-- letters, edits (read, write, cost) -/
abbrev Book := List Nat × List (List Nat × List Nat × Nat)
abbrev rBook : Rp Book := rP rS (rT (rP3 rS rS rN))
structure BOk (b : Book) : Prop where
  few : b.2.length ≤ 60
  len : ∀ e ∈ b.2, e.1.length ≤ 3
  len2 : ∀ e ∈ b.2, e.2.1.length ≤ 3
  lets : ∀ e ∈ b.2, ∀ c ∈ e.1, c ∈ b.1
  fewL : b.1.length ≤ 100
/-- the edits and the letters that stay -/
def alle (b : Book) : List (List Nat × List Nat × Nat) := b.2 ++ b.1.map fun x => ([x], [x], 0)
/-- what of a read may still be to be read -/
def Rest (b : Book) (r : List Nat) : Prop := r = [] ∨ ∃ e k, e ∈ b.2 ∧ 1 ≤ k ∧ k < e.1.length ∧ r = e.1.drop k
/-- not many rests -/
def RsB (b : Book) : Prop := ∀ rs : List (List Nat), rs.Nodup → (∀ r ∈ rs, Rest b r) → rs.length ≤ 61
theorem nodup_sub {α : Type} [DecidableEq α] : ∀ (L rs : List α), rs.Nodup → (∀ r ∈ rs, r ∈ L) → rs.length ≤ L.length
  | [], rs, _, h => by
    cases rs with
    | nil => exact Nat.le_refl _
    | cons x l => exact nomatch h x List.mem_cons_self
  | a :: L, rs, hn, h => by
    have h2 : ∀ x ∈ rs.erase a, x ∈ L := fun x hx => by
      have h1 := h x (List.mem_of_mem_erase hx)
      have h3 : x ≠ a := fun e => by rw [e] at hx; exact (List.Nodup.not_mem_erase hn) hx
      exact (List.mem_cons.mp h1).resolve_left h3
    have h4 := nodup_sub L _ (hn.erase a) h2
    rw [List.length_cons]
    by_cases hm : a ∈ rs
    · have := List.length_erase_of_mem hm
      have : 0 < rs.length := List.length_pos_of_mem hm
      omega
    · rw [List.erase_of_not_mem hm] at h4
      omega
theorem rsb_30 {b : Book} (h : BOk b) (h30 : b.2.length ≤ 30) : RsB b := by
  intro rs hn hr
  have h1 := nodup_sub ([] :: b.2.flatMap fun e => [e.1.drop 1, e.1.drop 2]) rs hn fun r hm => by
    rcases hr r hm with rfl | ⟨e, k, h1, h2, h3, rfl⟩
    · exact List.mem_cons_self
    · refine List.mem_cons_of_mem _ (List.mem_flatMap.mpr ⟨e, h1, ?_⟩)
      have := h.len e h1
      rcases (by omega : k = 1 ∨ k = 2) with rfl | rfl <;> simp
  have h2 : (b.2.flatMap fun e => [e.1.drop 1, e.1.drop 2]).length = 2 * b.2.length := by
    generalize b.2 = l
    induction l with
    | nil => rfl
    | cons x l ih => rw [List.flatMap_cons, List.length_append, ih]; show 2 + 2 * l.length = 2 * (l.length + 1); omega
  rw [List.length_cons, h2] at h1
  omega
def sS (l : List Nat) : Str := ⟨l.toArray⟩
def spRestsOf : Sp := fun vs H Q _ => ∃ (b : Book) (v1 : V), vs = [v1] ∧ rBook H v1 b ∧ BOk b ∧ RsB b ∧
  ∀ (v : V) (H' : Hp) (l : List (List Nat)), Fe H H' → rL rS H' v l → l.Nodup → PyProof.Rows.sortedS (l.map sS) = true → (∀ r, r ∈ l ↔ Rest b r) → l.length ≤ 61 → Q v H'
theorem perm_strs {ys : List Str} {ks : List (List Nat)} (h : ys.Perm (ks.map sS)) : ∃ l : List (List Nat), ys = l.map sS ∧ l.Perm ks := by
  have e1 : ∀ x ∈ ys, sS x.cps.toList = x := fun x _ => by
    show (⟨x.cps.toList.toArray⟩ : Str) = x
    rw [Array.toArray_toList]
  refine ⟨ys.map fun x => x.cps.toList, ?_, ?_⟩
  · rw [List.map_map]
    conv => lhs; rw [← List.map_id ys]
    exact List.map_congr_left fun x hx => (e1 x hx).symm
  · have := h.map fun x : Str => x.cps.toList
    rw [List.map_map] at this
    have e : ks.map ((fun x : Str => x.cps.toList) ∘ sS) = ks := by
      conv => rhs; rw [← List.map_id ks]
      exact List.map_congr_left fun n _ => rfl
    rw [e] at this
    exact this
theorem Al.strs {H : Hp} : ∀ l : List (List Nat), Al rS H ((l.map sS).map V.str) l
  | [] => .nil
  | x :: l => .cons rfl (Al.strs l)
theorem ok_rests_of (T : Txt K g) : FnOk P w K g base CX0 1 T.d_rests_of.f T.d_rests_of.fd P_rests_of spRestsOf := by
  refine T.d_rests_of.F.ok sc_rests_of (fun vs H Q E h => ?_) (fun cdv A outer s H vs Q E hr h => ?_)
  · obtain ⟨b, v1, rfl, _⟩ := h
    rfl
  · obtain ⟨b, v1, rfl, hb, ok, hRB, kk⟩ := h
    have hfew60 := ok.few
    have hu := hu_of hr
    refine ⟨_, (pss_cons (ps_set (i := 1) sc_rests_of.nd rfl (by first | exact Or.inl rfl | exact Or.inr rfl) (pe_disp (pps_cons pe_str pe_bl pps_nil) (by rfl) (by rfl) (fun z => by cases z) (by decide)))
    (pss_cons (ps_for PassesOwn.never rfl (ki_tup (K := K) rfl (pe_ix (kx_tup (K := K) rfl) (pv 0) pe_int (fun _ _ => rfl))) (kg_tup (K := K) 3 rfl rfl (pgs_cons (pg_name (i := 2) sc_rests_of.nd rfl (by first | exact Or.inl rfl | exact Or.inr rfl)) (pgs_cons (pg_name (i := 3) sc_rests_of.nd rfl (by first | exact Or.inl rfl | exact Or.inr rfl)) (pgs_cons (pg_name (i := 3) sc_rests_of.nd rfl (by first | exact Or.inl rfl | exact Or.inr rfl)) pgs_nil))))
      (pss_one (ps_for PassesOwn.never rfl (pi_range2 rfl T.z_range (pa_cons pe_int (pa_cons (pe_callB kc_lenS (by rfl) T.z_len PySem.boot_len (pa_cons (pv 2) pa_nil)) pa_nil))) (pg_name (i := 4) sc_rests_of.nd rfl (by first | exact Or.inl rfl | exact Or.inr rfl))
        (pss_one (ps_dput hu (pv 1) (pe_slice sl_str (pv 2) (po_some (pv 4)) po_none) pe_bl rfl)))))
    (pss_one (ps_ret (pe_callB (kc_sortedDS rfl) (by rfl) T.z_sorted (by decide +kernel) (pa_cons (pv 1) pa_nil)))))), ?_⟩
    obtain ⟨a, x, y, rfl, ha, rfl, hed⟩ := id hb
    obtain ⟨c, eds, rfl, hc, heds⟩ := id hed
    -- found = {"": True}
    intro d hd
    have e0 : Fe H (upd H d (.dK [])) := Fe.new hd
    refine ⟨upd_same, [(kS [], .bl true)], rfl, by decide, ?_⟩
    have e1 : Fe H (upd (upd H d (.dK [])) d (.dK (mergeK [] [(kS [], .bl true)]))) := e0.mut hd
    have em : mergeK [] [(kS [], V.bl true)] = tks kS [[]] := by
      have := tks_put kS kS_inj [] []
      exact this
    rw [em] at e1 ⊢
    generalize hH1 : upd (upd H d (.dK [])) d (.dK (tks kS [[]])) = H1 at e1
    have d1 : H1 d = some (.dK (tks kS [[]])) := by rw [← hH1]; exact upd_same
    clear hH1
    -- for read, _, _ in book[1]
    refine ⟨_, rfl, a, _, _, _, rfl, rfl, SqT.of (e1.k ha), rfl, c, rfl, ⟨_, SqT.of (e1.k hc)⟩, for_tup (K := K) (a := c) (xs := eds) (fun i σ' H' => ∃ (ks : List (List Nat)) (o1 o2 o3 : Option V), σ' = [some (.ref a), some (.ref d), o1, o2, o3] ∧ Fe H H' ∧
      H' d = some (.dK (tks kS ks)) ∧ ks.Nodup ∧ ks.length ≤ 1 + 2 * i ∧ ∀ r, r ∈ ks ↔ (r = [] ∨ ∃ e k, e ∈ b.2.take i ∧ 1 ≤ k ∧ k < e.1.length ∧ r = e.1.drop k)) ⟨[[]], none, none, none, rfl, e1, d1, by simp, by simp, fun r => by simp⟩
      (fun i σ' H' _ ⟨_, _, _, _, _, e, _⟩ => SqT.of (e.k hc)) ?_ ?_⟩
    · rintro i x σ' H' hx ⟨ks, o1, o2, o3, rfl, e, hD, nd, hkl, hks⟩
      obtain ⟨ed, hed, hxr⟩ := heds.get hx
      obtain ⟨u, x1, x2, x3, rfl, hu2, rfl, rfl, rfl⟩ := id hxr
      have hem : ed ∈ b.2 := List.mem_of_getElem? hed
      have h3 := ok.len ed hem
      have hil : i < b.2.length := (List.getElem?_eq_some_iff.mp hed).1
      refine ⟨u, _, rfl, SqT.of (e.k hu2), rfl, _, _, rfl, _, _, rfl, _, _, rfl, rfl, ?_⟩
      refine ⟨_, rfl, _, rfl, by rw [slen, sizeLine_eq]; omega, 1, ((ed.1.length : Nat) : Int), by rw [slen], ⟨by omega, by omega, by omega, by omega⟩, for_range (lo := 1) (n := ((ed.1.length : Int) - 1).toNat) (fun j σ' H' => ∃ (ks : List (List Nat)) (o2 : Option V), σ' = [some (.ref a), some (.ref d), some (.str ⟨ed.1.toArray⟩), some (.int (ed.2.2 : Int)), o2] ∧ Fe H H' ∧
        H' d = some (.dK (tks kS ks)) ∧ ks.Nodup ∧ ks.length ≤ 1 + 2 * i + j ∧ ∀ r, r ∈ ks ↔ ((r = [] ∨ ∃ e k, e ∈ b.2.take i ∧ 1 ≤ k ∧ k < e.1.length ∧ r = e.1.drop k) ∨ ∃ k, 1 ≤ k ∧ k < 1 + j ∧ r = ed.1.drop k)) ⟨ks, o3, rfl, e, hD, nd, hkl, fun r => by rw [hks r]; exact ⟨.inl, fun h => h.elim id fun ⟨k, a, b, _⟩ => by omega⟩⟩ ?_ ?_⟩
      · rintro j σ' H' hj ⟨ks, o2, rfl, e, hD, nd, hkl, hks⟩
        refine ⟨_, rfl, _, rfl, _, rfl, _, rfl, _, rfl, by rw [slen, sizeLine_eq]; omega, ?_⟩
        have ec : cutS ⟨ed.1.toArray⟩ (some (1 + (j : Int))) none = ⟨(ed.1.drop (1 + j)).toArray⟩ := by
          have := cut_from ed.1 (1 + j)
          rw [← this]
          congr 2
        refine ⟨d, upd H' d (.dK (putK (tks kS ks) (kS (ed.1.drop (1 + j))) (.bl true))), rfl, by rw [ec]; exact DPut.k (k := kS (ed.1.drop (1 + j))) hD (by rw [tks_len, sizeLine_eq]; omega), ?_⟩
        refine ⟨ins (ed.1.drop (1 + j)) ks, _, rfl, e.mut hd, by rw [upd_same, tks_put kS kS_inj], nd_ins nd, by have := len_ins (ed.1.drop (1 + j)) ks; omega, fun r => ?_⟩
        rw [mem_ins, hks r]
        constructor
        · rintro (h | h | ⟨k, h1, h2, h3⟩)
          · exact .inr ⟨1 + j, by omega, by omega, h⟩
          · exact .inl h
          · exact .inr ⟨k, h1, by omega, h3⟩
        · rintro (h | ⟨k, h1, h2, h3⟩)
          · exact .inr (.inl h)
          · by_cases hk : k = 1 + j
            · subst hk; exact .inl h3
            · exact .inr (.inr ⟨k, h1, by omega, h3⟩)
      · rintro σ' H' ⟨ks, o2, rfl, e, hD, nd, hkl, hks⟩
        refine ⟨ks, _, _, _, rfl, e, hD, nd, by omega, fun r => ?_⟩
        rw [hks r, List.take_add_one, hed]
        constructor
        · rintro ((h | ⟨e', k, h1, h2⟩) | ⟨k, h1, h2, h3⟩)
          · exact .inl h
          · exact .inr ⟨e', k, List.mem_append_left _ h1, h2⟩
          · exact .inr ⟨ed, k, List.mem_append_right _ (List.mem_singleton.mpr rfl), h1, by omega, h3⟩
        · rintro (h | ⟨e', k, h1, h2, h3, h4⟩)
          · exact .inl (.inl h)
          · rcases List.mem_append.mp h1 with h1 | h1
            · exact .inl (.inr ⟨e', k, h1, h2, h3, h4⟩)
            · have e2 : e' = ed := List.mem_singleton.mp h1
              subst e2
              exact .inr ⟨k, h2, by omega, h4⟩
    · rintro σ' H' ⟨ks, o1, o2, o3, rfl, e, hD, nd, hkl, hks⟩
      rw [heds.len] at hkl hks
      have hk61 : ks.length ≤ 61 := hRB ks nd fun r hr => by
        have := (hks r).mp hr
        rw [List.take_length] at this
        exact this
      refine ⟨_, rfl, d, _, ks.map sS, rfl, .inl hD, by rw [tks_keys, List.map_map]; rfl, by rw [List.length_map]; omega, fun ys p hp hs hnp => ?_⟩
      obtain ⟨l, rfl, hpm⟩ := perm_strs hp
      refine kk _ _ l (e.trans (Fe.new hnp)) ⟨p, _, rfl, upd_same, Al.strs l⟩ (hpm.nodup_iff.mpr nd) hs (fun r => ?_) (by rw [hpm.length_eq]; exact hk61)
      rw [hpm.mem_iff, hks r, List.take_length]
      rfl
end
end Fm
namespace Fm
open PySem L2
/-! ### standings and moves -/
abbrev Stg := Nat × List Nat
abbrev Em (m : Mach) (q c t : Nat) : Prop := (q, c, t) ∈ m.2.2
/-- a move that reads nothing -/
def Sil (b : Book) (m : Mach) (s s' : Stg) (c : Nat) : Prop := s.2 = [] ∧ s'.2 = [] ∧ ∃ wr, (([], wr, c) : List Nat × List Nat × Nat) ∈ b.2 ∧ Lead (Em m) wr s.1 s'.1
/-- a move that reads the letter x -/
def Rea (b : Book) (m : Mach) (x : Nat) (s s' : Stg) (c : Nat) : Prop :=
  (∃ r, s.2 = x :: r ∧ s' = (s.1, r) ∧ c = 0) ∨ (s.2 = [] ∧ s'.2 = [] ∧ Em m s.1 x s'.1 ∧ c = 0) ∨ (s.2 = [] ∧ ∃ rd wr, ((x :: rd, wr, c) : List Nat × List Nat × Nat) ∈ b.2 ∧ s'.2 = rd ∧ Lead (Em m) wr s.1 s'.1)
/-- the one or the other -/
def Mv (b : Book) (m : Mach) (k : Option Nat) (s s' : Stg) (c : Nat) : Prop := match k with
  | none => Sil b m s s' c
  | some x => Rea b m x s s' c
abbrev Row := List (Nat × Nat × Unit)
abbrev rMv : Rp (Nat × Nat × Unit) := rP3 rN rN rX
abbrev Edc (rows : List Row) (h to c : Nat) : Prop := ∃ row, rows[h]? = some row ∧ (to, c, ()) ∈ row
abbrev MatD := Addr × List Addr × List Row
def adr (L : List MatD) : List Addr := L.flatMap fun m => m.1 :: m.2.1
structure Mats (H0 H : Hp) (L : List MatD) : Prop where
  mat : ∀ m ∈ L, Mat rMv H0 H m.1 m.2.1 m.2.2
  nd : (adr L).Nodup
theorem adr_set {L : List MatD} {j : Nat} {m : MatD} (h : L[j]? = some m) (rows : List Row) : adr (L.set j (m.1, m.2.1, rows)) = adr L := by
  induction L generalizing j with
  | nil => rfl
  | cons a L ih =>
    cases j with
    | zero => cases h; rfl
    | succ j =>
      show _ ++ adr (L.set j _) = _ ++ adr L
      rw [ih h]
theorem mem_adr {L : List MatD} {m : MatD} {a : Addr} (h : m ∈ L) (ha : a = m.1 ∨ a ∈ m.2.1) : a ∈ adr L :=
  List.mem_flatMap.mpr ⟨m, h, by rcases ha with rfl | h; exact List.mem_cons_self; exact List.mem_cons_of_mem _ h⟩
theorem adr_apart {L : List MatD} (nd : (adr L).Nodup) {i j : Nat} {m n : MatD} (hi : L[i]? = some m) (hj : L[j]? = some n) (ne : i ≠ j) {a : Addr} (ha : a ∈ m.1 :: m.2.1) : a ∉ n.1 :: n.2.1 := by
  induction L generalizing i j with
  | nil => cases hi
  | cons b L ih =>
    have nd' : ((b.1 :: b.2.1) ++ adr L).Nodup := nd
    rw [List.nodup_append] at nd'
    obtain ⟨_, n2, n3⟩ := nd'
    cases i with
    | zero =>
      cases j with
      | zero => exact absurd rfl ne
      | succ j =>
        cases hi
        intro hn
        exact n3 a ha a (List.mem_flatMap.mpr ⟨n, List.mem_of_getElem? hj, hn⟩) rfl
    | succ i =>
      cases j with
      | zero =>
        cases hj
        intro hn
        exact n3 a hn a (List.mem_flatMap.mpr ⟨m, List.mem_of_getElem? hi, ha⟩) rfl
      | succ j => exact ih n2 hi hj (by omega)
theorem Mats.fe {H0 H H' : Hp} {L : List MatD} (M : Mats H0 H L) (f : Fe H H') : Mats H0 H' L := ⟨fun m h => (M.mat m h).fe f, M.nd⟩
theorem Mats.put {H0 H : Hp} {L : List MatD} (M : Mats H0 H L) {j h : Nat} {m : MatD} {q : Addr} {row : Row} {xs : List V} {v : V} {x : Nat × Nat × Unit} (hj : L[j]? = some m)
    (hq : m.2.1[h]? = some q) (hr : m.2.2[h]? = some row) (hx : H q = some (.lst xs)) (ha : Al rMv H xs row) (hv : rMv H v x) : Mats H0 (upd H q (.lst (xs ++ [v]))) (L.set j (m.1, m.2.1, m.2.2.set h (row ++ [x]))) := by
  have hm := List.mem_of_getElem? hj
  have hqm : q ∈ m.1 :: m.2.1 := List.mem_cons_of_mem _ (List.mem_of_getElem? hq)
  refine ⟨fun n hn => ?_, by rw [adr_set hj]; exact M.nd⟩
  obtain ⟨i, hi⟩ := List.mem_iff_getElem?.mp hn
  rw [List.getElem?_set] at hi
  by_cases e : j = i
  · subst e
    rw [if_pos rfl, if_pos (List.getElem?_eq_some_iff.mp hj).1] at hi
    cases hi
    exact (M.mat m hm).put hq hr hx ha hv
  · rw [if_neg e] at hi
    have ap := adr_apart M.nd hj hi e hqm
    have f : Fx [q] H (upd H q (.lst (xs ++ [v]))) := Fx.put hx (List.mem_singleton.mpr rfl) (fun _ z => nomatch z)
    refine (M.mat n (List.mem_of_getElem? hi)).keep f (fun z => ap ?_) (fun a ha z => ap ?_)
    · rw [← List.mem_singleton.mp z]; exact List.mem_cons_self
    · rw [← List.mem_singleton.mp z]; exact List.mem_cons_of_mem _ ha
/-- which moves the rows tell so far: by the key (none: silent; a letter), the standings' numbers, the cost -/
structure Rows (n : Nat) (ks : List (Option Nat)) (L : List MatD) (S : Option Nat → Nat → Nat → Nat → Prop) : Prop where
  len : L.length = ks.length
  rl : ∀ m ∈ L, m.2.2.length = n
  ed : ∀ (j : Nat) (k : Option Nat) (m : MatD) (h to c : Nat), ks[j]? = some k → L[j]? = some m → (Edc m.2.2 h to c ↔ (h < n ∧ S k h to c))
theorem Rows.put {n : Nat} {ks : List (Option Nat)} {L : List MatD} {S : Option Nat → Nat → Nat → Nat → Prop} (R : Rows n ks L S) (nk : ks.Nodup) {j h to c : Nat} {k : Option Nat} {m : MatD} {row : Row} (hk : ks[j]? = some k) (hj : L[j]? = some m)
    (hr : m.2.2[h]? = some row) : Rows n ks (L.set j (m.1, m.2.1, m.2.2.set h (row ++ [(to, c, ())]))) (fun k' h' to' c' => S k' h' to' c' ∨ (k' = k ∧ h' = h ∧ to' = to ∧ c' = c)) where
  len := by rw [List.length_set]; exact R.len
  rl := fun m' hm => by
    rcases List.mem_or_eq_of_mem_set hm with hm | rfl
    · exact R.rl m' hm
    · rw [List.length_set]; exact R.rl m (List.mem_of_getElem? hj)
  ed := fun i k' m' h' to' c' hi hm => by
    have hlt := (List.getElem?_eq_some_iff.mp hj).1
    have hhl := (List.getElem?_eq_some_iff.mp hr).1
    have hn : h < n := by rw [← R.rl m (List.mem_of_getElem? hj)]; exact hhl
    rw [List.getElem?_set] at hm
    by_cases e : j = i
    · subst e
      rw [if_pos rfl, if_pos hlt] at hm
      cases hm
      rw [hk] at hi; cases hi
      have := R.ed j k m h' to' c' hk hj
      constructor
      · rintro ⟨row', h1, h2⟩
        rw [List.getElem?_set] at h1
        by_cases e2 : h = h'
        · subst e2
          rw [if_pos rfl, if_pos hhl] at h1
          cases h1
          rcases List.mem_append.mp h2 with h2 | h2
          · have := this.mp ⟨row, hr, h2⟩
            exact ⟨this.1, .inl this.2⟩
          · have e3 := List.mem_singleton.mp h2
            cases e3
            exact ⟨hn, .inr ⟨rfl, rfl, rfl, rfl⟩⟩
        · rw [if_neg e2] at h1
          have := this.mp ⟨row', h1, h2⟩
          exact ⟨this.1, .inl this.2⟩
      · rintro ⟨hl, h2 | ⟨_, rfl, rfl, rfl⟩⟩
        · obtain ⟨row', h1, h3⟩ := this.mpr ⟨hl, h2⟩
          by_cases e2 : h = h'
          · subst e2
            rw [hr] at h1; cases h1
            exact ⟨_, by rw [List.getElem?_set, if_pos rfl, if_pos hhl], List.mem_append_left _ h3⟩
          · exact ⟨row', by rw [List.getElem?_set, if_neg e2]; exact h1, h3⟩
        · exact ⟨_, by rw [List.getElem?_set, if_pos rfl, if_pos hhl], List.mem_append_right _ (List.mem_singleton.mpr rfl)⟩
    · rw [if_neg e] at hm
      have ne : k' ≠ k := fun z => e (nd_ix nk (z ▸ hk) hi)
      rw [R.ed i k' m' h' to' c' hi hm]
      exact ⟨fun ⟨a, b⟩ => ⟨a, .inl b⟩, fun ⟨a, b⟩ => ⟨a, b.elim id fun z => absurd z.1 ne⟩⟩
theorem Rows.imp {n : Nat} {ks : List (Option Nat)} {L : List MatD} {S S' : Option Nat → Nat → Nat → Nat → Prop} (R : Rows n ks L S) (h : ∀ k h to c, k ∈ ks → h < n → (S k h to c ↔ S' k h to c)) : Rows n ks L S' :=
  ⟨R.len, R.rl, fun j k m h' to c hk hm => by rw [R.ed j k m h' to c hk hm]; exact ⟨fun ⟨a, b⟩ => ⟨a, (h k h' to c (List.mem_of_getElem? hk) a).mp b⟩, fun ⟨a, b⟩ => ⟨a, (h k h' to c (List.mem_of_getElem? hk) a).mpr b⟩⟩⟩
/-- the rows at one place hold at most t moves -/
def Bd (i t : Nat) (L : List MatD) : Prop := ∀ m ∈ L, ∀ row, m.2.2[i]? = some row → row.length ≤ t
theorem Bd.put {i t : Nat} {L : List MatD} (B : Bd i t L) {j : Nat} {m : MatD} {row : Row} {x : Nat × Nat × Unit} (hj : L[j]? = some m) (hr : m.2.2[i]? = some row) : Bd i (t + 1) (L.set j (m.1, m.2.1, m.2.2.set i (row ++ [x]))) := by
  intro m' hm row' hr'
  have hm0 := List.mem_of_getElem? hj
  rcases List.mem_or_eq_of_mem_set hm with hm | rfl
  · have := B m' hm row' hr'; omega
  · rw [List.getElem?_set, if_pos rfl, if_pos (List.getElem?_eq_some_iff.mp hr).1] at hr'
    cases hr'
    rw [List.length_append, List.length_singleton]
    have := B m hm0 row hr; omega
theorem Bd.none_ {i n : Nat} {ks : List (Option Nat)} {L : List MatD} {S : Option Nat → Nat → Nat → Nat → Prop} (R : Rows n ks L S) (h : ∀ k to c, ¬ S k i to c) : Bd i 0 L := by
  intro m hm row hr
  obtain ⟨j, hj⟩ := List.mem_iff_getElem?.mp hm
  have hjl : j < ks.length := by rw [← R.len]; exact (List.getElem?_eq_some_iff.mp hj).1
  cases row with
  | nil => exact Nat.le_refl _
  | cons x r =>
    obtain ⟨to, c, u⟩ := x
    exact absurd ((R.ed j _ m i to c (List.getElem?_eq_getElem hjl) hj).mp ⟨_, hr, List.mem_cons_self⟩).2 (h _ _ _)
/-! ### the web as an object -/
abbrev nb : Str := "book"
abbrev nm : Str := "machine"
abbrev ns : Str := "standings"
abbrev nh : Str := "homes"
abbrev nl : Str := "silent"
abbrev nr : Str := "reading"
def wfl (vb vm vs vh vl vr : V) : List (Str × V) := putF nr vr (putF nl vl (putF nh vh (putF ns vs (putF nm vm (putF nb vb [])))))
theorem w_bm : ¬ nb = nm := by decide +kernel
theorem w_bs : ¬ nb = ns := by decide +kernel
theorem w_bh : ¬ nb = nh := by decide +kernel
theorem w_bl : ¬ nb = nl := by decide +kernel
theorem w_br : ¬ nb = nr := by decide +kernel
theorem w_ms : ¬ nm = ns := by decide +kernel
theorem w_mh : ¬ nm = nh := by decide +kernel
theorem w_ml : ¬ nm = nl := by decide +kernel
theorem w_mr : ¬ nm = nr := by decide +kernel
theorem w_sh : ¬ ns = nh := by decide +kernel
theorem w_sl : ¬ ns = nl := by decide +kernel
theorem w_sr : ¬ ns = nr := by decide +kernel
theorem w_hl : ¬ nh = nl := by decide +kernel
theorem w_hr : ¬ nh = nr := by decide +kernel
theorem w_lr : ¬ nl = nr := by decide +kernel
theorem wfl_b {vb vm vs vh vl vr : V} : (wfl vb vm vs vh vl vr).lookup nb = some vb := by
  unfold wfl
  rw [lookup_putF, if_neg w_br, lookup_putF, if_neg w_bl, lookup_putF, if_neg w_bh, lookup_putF, if_neg w_bs, lookup_putF, if_neg w_bm, lookup_putF, if_pos rfl]
theorem wfl_m {vb vm vs vh vl vr : V} : (wfl vb vm vs vh vl vr).lookup nm = some vm := by
  unfold wfl
  rw [lookup_putF, if_neg w_mr, lookup_putF, if_neg w_ml, lookup_putF, if_neg w_mh, lookup_putF, if_neg w_ms, lookup_putF, if_pos rfl]
theorem wfl_s {vb vm vs vh vl vr : V} : (wfl vb vm vs vh vl vr).lookup ns = some vs := by
  unfold wfl
  rw [lookup_putF, if_neg w_sr, lookup_putF, if_neg w_sl, lookup_putF, if_neg w_sh, lookup_putF, if_pos rfl]
theorem wfl_h {vb vm vs vh vl vr : V} : (wfl vb vm vs vh vl vr).lookup nh = some vh := by
  unfold wfl
  rw [lookup_putF, if_neg w_hr, lookup_putF, if_neg w_hl, lookup_putF, if_pos rfl]
theorem wfl_l {vb vm vs vh vl vr : V} : (wfl vb vm vs vh vl vr).lookup nl = some vl := by
  unfold wfl
  rw [lookup_putF, if_neg w_lr, lookup_putF, if_pos rfl]
theorem wfl_r {vb vm vs vh vl vr : V} : (wfl vb vm vs vh vl vr).lookup nr = some vr := by
  unfold wfl
  rw [lookup_putF, if_pos rfl]
theorem wfl_no {vb vm vs vh vl vr : V} {f : Str} (h1 : ¬ f = nb) (h2 : ¬ f = nm) (h3 : ¬ f = ns) (h4 : ¬ f = nh) (h5 : ¬ f = nl) (h6 : ¬ f = nr) : (wfl vb vm vs vh vl vr).lookup f = none := by
  unfold wfl
  rw [lookup_putF, if_neg h6, lookup_putF, if_neg h5, lookup_putF, if_neg h4, lookup_putF, if_neg h3, lookup_putF, if_neg h2, lookup_putF, if_neg h1]
  rfl
/-- the dict from standings to their numbers -/
def kSt (s : Stg) : List Key := [kN s.1, kS s.2]
def hkvs (sts : List Stg) : List (List Key × V) := sts.zipIdx.map fun p => (kSt p.1, V.int (p.2 : Int))
theorem kSt_inj {s t : Stg} (h : kSt s = kSt t) : s = t := by
  unfold kSt at h
  injection h with h1 h2
  injection h2 with h2 _
  exact Prod.ext (kN_inj _ _ h1) (kS_inj _ _ h2)
theorem valV_idx {κ α : Type} [DecidableEq κ] (f : α → κ) (hf : ∀ a b, f a = f b → a = b) (w : Nat → V) : ∀ (l : List α) (n i : Nat) (a : α), l.Nodup → l[i]? = some a → valV ((l.zipIdx n).map fun p => (f p.1, w p.2)) (f a) = some (w (n + i))
  | [], n, i, a, _, h => by cases i <;> cases h
  | b :: l, n, 0, a, _, h => by
    cases h
    exact valV_pos rfl
  | b :: l, n, i + 1, a, hn, h => by
    rw [List.nodup_cons] at hn
    have hne : ¬ f b = f a := fun z => hn.1 (hf _ _ z ▸ List.mem_of_getElem? h)
    rw [List.zipIdx_cons, List.map_cons, valV_neg hne, valV_idx f hf w l (n + 1) i a hn.2 h]
    congr 2
    omega
theorem hkvs_at {sts : List Stg} (hn : sts.Nodup) {i : Nat} {s : Stg} (h : sts[i]? = some s) : valV (hkvs sts) (kSt s) = some (.int (i : Int)) := by
  have := valV_idx kSt (fun a b => kSt_inj) (fun n => V.int (n : Int)) sts 0 i s hn h
  rw [Nat.zero_add] at this
  exact this
/-- the dict from letters to their rows -/
def rkvs (ls : List Nat) (ps : List Addr) : List (Key × V) := (ls.zip ps).map fun p => (kS [p.1], V.ref p.2)
theorem rkvs_at : ∀ {ls : List Nat} {ps : List Addr}, ls.Nodup → ∀ {j x : Nat} {p : Addr}, ls[j]? = some x → ps[j]? = some p → valV (rkvs ls ps) (kS [x]) = some (.ref p)
  | [], _, _, j, _, _, h, _ => by cases j <;> cases h
  | _ :: _, [], _, j, _, _, _, h => by cases j <;> cases h
  | y :: ls, r :: ps, hn, 0, x, p, h1, h2 => by
    cases h1; cases h2
    exact valV_pos rfl
  | y :: ls, r :: ps, hn, j + 1, x, p, h1, h2 => by
    rw [List.nodup_cons] at hn
    have ne : ¬ kS [y] = kS [x] := fun z => by
      have := kS_inj _ _ z
      injection this with this _
      subst this
      exact hn.1 (List.mem_of_getElem? h1)
    show valV ((kS [y], V.ref r) :: rkvs ls ps) _ = _
    rw [valV_neg ne]
    exact rkvs_at hn.2 (j := j) h1 h2
/-- a web at sf, its rows L, all of them made since H0 -/
structure WAt (C : Addr) (H0 H : Hp) (b : Book) (m : Mach) (sts : List Stg) (L : List MatD) (sf : Addr) (dx : Addr) (vb vm : V) (as : Addr) (xs : List V) (ah rd : Addr) : Prop where
  fe : Fe H0 H
  ins : ∃ p0, (L.map (·.1))[0]? = some p0 ∧ H sf = some (.ins C dx (wfl vb vm (.ref as) (.ref ah) (.ref p0) (.ref rd)))
  hb : rBook H vb b
  hm : rMach H vm m
  hs : H as = some (.lst xs)
  hx : Al (rP rN rS) H xs sts
  hh : H ah = some (.dT (hkvs sts))
  hr : H rd = some (.dK (rkvs b.1 ((L.map (·.1)).tail)))
  mats : Mats H0 H L
  apart : as ∉ adr L
theorem WAt.f {C : Addr} {H0 H H' : Hp} {b : Book} {m : Mach} {sts : List Stg} {L : List MatD} {sf dx : Addr} {vb vm : V} {as : Addr} {xs : List V} {ah rd : Addr} (W : WAt C H0 H b m sts L sf dx vb vm as xs ah rd) (f : Fe H H') :
    WAt C H0 H' b m sts L sf dx vb vm as xs ah rd where
  fe := W.fe.trans f
  ins := let ⟨p0, a, b⟩ := W.ins; ⟨p0, a, f.k b⟩
  hb := Me.go W.hb f
  hm := Me.go W.hm f
  hs := f.k W.hs
  hx := Al.mo f W.hx
  hh := f.k W.hh
  hr := f.k W.hr
  mats := W.mats.fe f
  apart := W.apart
theorem map1_set {L : List MatD} {j : Nat} {m : MatD} (h : L[j]? = some m) (rows : List Row) : (L.set j (m.1, m.2.1, rows)).map (·.1) = L.map (·.1) := by
  apply List.ext_getElem?
  intro i
  rw [List.getElem?_map, List.getElem?_map, List.getElem?_set]
  by_cases e : j = i
  · subst e
    rw [if_pos rfl, if_pos (List.getElem?_eq_some_iff.mp h).1, h]; rfl
  · rw [if_neg e]
theorem WAt.put {C : Addr} {H0 H : Hp} {b : Book} {m : Mach} {sts : List Stg} {L : List MatD} {sf dx : Addr} {vb vm : V} {as : Addr} {xs : List V} {ah rd : Addr} (W : WAt C H0 H b m sts L sf dx vb vm as xs ah rd)
    {j h : Nat} {d : MatD} {q : Addr} {row : Row} {ys : List V} {v : V} {x : Nat × Nat × Unit} (hj : L[j]? = some d) (hq : d.2.1[h]? = some q) (hr : d.2.2[h]? = some row) (hy : H q = some (.lst ys)) (ha : Al rMv H ys row) (hv : rMv H v x) :
    WAt C H0 (upd H q (.lst (ys ++ [v]))) b m sts (L.set j (d.1, d.2.1, d.2.2.set h (row ++ [x]))) sf dx vb vm as xs ah rd := by
  have f : Fx [q] H (upd H q (.lst (ys ++ [v]))) := Fx.put hy (List.mem_singleton.mpr rfl) (fun _ z => nomatch z)
  have hdm := List.mem_of_getElem? hj
  have hqa : q ∈ adr L := mem_adr hdm (.inr (List.mem_of_getElem? hq))
  have h0 : H0 q = none := (W.mats.mat d hdm).new q (List.mem_of_getElem? hq)
  have nas : as ≠ q := fun z => W.apart (z ▸ hqa)
  obtain ⟨p0, i1, i2⟩ := W.ins
  exact ⟨W.fe.mut h0, ⟨p0, by rw [map1_set hj]; exact i1, by rw [upd_ne (ne_of i2 hy (fun z => nomatch z))]; exact i2⟩, Mo.mo (r := rBook) f W.hb, Mo.mo (r := rMach) f W.hm, by rw [upd_ne nas]; exact W.hs, Al.mo f W.hx,
    by rw [upd_ne (ne_of W.hh hy (fun z => nomatch z))]; exact W.hh, by rw [upd_ne (ne_of W.hr hy (fun z => nomatch z)), map1_set hj]; exact W.hr, W.mats.put hj hq hr hy ha hv, by rw [adr_set hj]; exact W.apart⟩
end Fm
namespace Fm
open PySem L2
abbrev keysOf (b : Book) : List (Option Nat) := none :: b.1.map some
/-- book, machine, standings as they must be -/
structure SOk (b : Book) (m : Mach) (sts : List Stg) : Prop where
  bk : BOk b
  mo : MOk m
  few : m.1 ≤ 60
  ln : b.1.Nodup
  ms : ∀ s ∈ m.2.2, s.2.1 ∈ b.1
  nd : sts.Nodup
  mem : ∀ s, s ∈ sts ↔ (s.1 < m.1 ∧ Rest b s.2)
theorem SOk.keys {b : Book} {m : Mach} {sts : List Stg} (o : SOk b m sts) : (keysOf b).Nodup := by
  rw [List.nodup_cons]
  refine ⟨by simp, ?_⟩
  have := o.ln
  clear o
  generalize b.1 = l at this ⊢
  induction l with
  | nil => exact List.nodup_nil
  | cons x l ih =>
    rw [List.nodup_cons] at this
    rw [List.map_cons, List.nodup_cons]
    refine ⟨fun h => ?_, ih this.2⟩
    obtain ⟨y, hy, e⟩ := List.mem_map.mp h
    cases e
    exact this.1 hy
theorem SOk.idx {b : Book} {m : Mach} {sts : List Stg} (o : SOk b m sts) {s : Stg} (h1 : s.1 < m.1) (h2 : Rest b s.2) : ∃ i : Nat, sts[i]? = some s := List.mem_iff_getElem?.mp ((o.mem s).mpr ⟨h1, h2⟩)
theorem SOk.web {b : Book} {m : Mach} {sts : List Stg} (o : SOk b m sts) : WOk (stepRows m.1 m.2.2) where
  few := by rw [stepRows_len]; exact o.few
  ok := fun row hrow p hp => by
    rw [stepRows_len]
    obtain ⟨q, hq, rfl⟩ := List.mem_map.mp hrow
    obtain ⟨s, hs, rfl⟩ := List.mem_map.mp hp
    exact (o.mo.st s (List.mem_filter.mp hs).1).2
theorem lead_em {m : Mach} (ok : MOk m) : ∀ {t : List Nat} {q p : Nat}, q < m.1 → (Lead (Ed (stepRows m.1 m.2.2)) t q p ↔ Lead (Em m) t q p)
  | [], _, _, _ => Iff.rfl
  | c :: t, q, p, h => by
    constructor
    · rintro ⟨r, h1, h2⟩
      have h3 := (stepRows_ed h).mp h1
      exact ⟨r, h3, (lead_em ok (ok.st _ h3).2).mp h2⟩
    · rintro ⟨r, h1, h2⟩
      exact ⟨r, (stepRows_ed h).mpr h1, (lead_em ok (ok.st _ h1).2).mpr h2⟩
theorem lead_em_lt {m : Mach} (ok : MOk m) {t : List Nat} {q p : Nat} (h : q < m.1) (l : Lead (Em m) t q p) : p < m.1 := lead_lt (fun _ _ _ h => (ok.st _ h).2) h l
/-- the web while its rows are filled; the machine's steps by state at a -/
structure PSt (C : Addr) (H0 H1 H : Hp) (b : Book) (m : Mach) (sts : List Stg) (L : List MatD) (S : Option Nat → Nat → Nat → Nat → Prop) (home t : Nat) (sf dx : Addr) (vb vm : V) (as : Addr) (xs : List V) (ah rd a : Addr) (rs : List Addr) : Prop where
  W : WAt C H0 H b m sts L sf dx vb vm as xs ah rd
  R : Rows sts.length (keysOf b) L S
  B : Bd home t L
  M : Mat (rP rC rN) H1 H a rs (stepRows m.1 m.2.2)
  old : ∀ x ∈ adr L, H1 x ≠ none
section
variable {C : Addr} {H0 H1 H : Hp} {b : Book} {m : Mach} {sts : List Stg} {L : List MatD} {S : Option Nat → Nat → Nat → Nat → Prop} {home t : Nat} {sf dx : Addr} {vb vm : V} {as : Addr} {xs : List V} {ah rd a : Addr} {rs : List Addr}
theorem PSt.f (p : PSt C H0 H1 H b m sts L S home t sf dx vb vm as xs ah rd a rs) {H' : Hp} (f : Fe H H') : PSt C H0 H1 H' b m sts L S home t sf dx vb vm as xs ah rd a rs := ⟨p.W.f f, p.R, p.B, p.M.fe f, p.old⟩
theorem PSt.imp (p : PSt C H0 H1 H b m sts L S home t sf dx vb vm as xs ah rd a rs) {S' : Option Nat → Nat → Nat → Nat → Prop} (h : ∀ k h to c, k ∈ keysOf b → h < sts.length → (S k h to c ↔ S' k h to c)) :
    PSt C H0 H1 H b m sts L S' home t sf dx vb vm as xs ah rd a rs := ⟨p.W, p.R.imp h, p.B, p.M, p.old⟩
/-- a row, found by its key and the standing's number -/
theorem PSt.at (p : PSt C H0 H1 H b m sts L S home t sf dx vb vm as xs ah rd a rs) {j : Nat} {k : Option Nat} (hk : (keysOf b)[j]? = some k) (hh : home < sts.length) :
    ∃ d q row ys, L[j]? = some d ∧ d.2.1[home]? = some q ∧ d.2.2[home]? = some row ∧ H q = some (.lst ys) ∧ Al rMv H ys row ∧ ys.length ≤ t ∧ H d.1 = some (.lst (d.2.1.map V.ref)) ∧ (L.map (·.1))[j]? = some d.1 := by
  have hj : j < L.length := by rw [p.R.len]; exact (List.getElem?_eq_some_iff.mp hk).1
  have hd : L[j]? = some L[j] := List.getElem?_eq_getElem hj
  have hm := List.mem_of_getElem? hd
  have hh' : home < (L[j]).2.2.length := by rw [p.R.rl _ hm]; exact hh
  have hr : (L[j]).2.2[home]? = some ((L[j]).2.2[home]'hh') := List.getElem?_eq_getElem hh'
  obtain ⟨q, ys, h1, _, h2, h3⟩ := (p.W.mats.mat _ hm).get hr
  exact ⟨L[j], q, _, ys, hd, h1, hr, h2, h3, by rw [h3.len]; exact p.B _ hm _ hr, (p.W.mats.mat _ hm).at_, by rw [List.getElem?_map, hd]; rfl⟩
/-- a move put behind it, made ahead in H' -/
theorem PSt.put (p : PSt C H0 H1 H b m sts L S home t sf dx vb vm as xs ah rd a rs) (o : SOk b m sts) {H' : Hp} (f : Fe H H') {j to c : Nat} {k : Option Nat} {d : MatD} {q U : Addr} {row : Row} {ys : List V} {y : V} (hk : (keysOf b)[j]? = some k) (hd : L[j]? = some d)
    (hq : d.2.1[home]? = some q) (hr : d.2.2[home]? = some row) (hy : H q = some (.lst ys)) (ha : Al rMv H ys row) (hU : H' U = some (.tup [.int (to : Int), .int (c : Int), y])) :
    ∃ L', PSt C H0 H1 (upd H' q (.lst (ys ++ [.ref U]))) b m sts L' (fun k' h' to' c' => S k' h' to' c' ∨ (k' = k ∧ h' = home ∧ to' = to ∧ c' = c)) home (t + 1) sf dx vb vm as xs ah rd a rs ∧ adr L' = adr L := by
  have p' := p.f f
  have hqa : q ∈ adr L := mem_adr (List.mem_of_getElem? hd) (.inr (List.mem_of_getElem? hq))
  have nq := p.old q hqa
  refine ⟨L.set j (d.1, d.2.1, d.2.2.set home (row ++ [(to, c, ())])), ⟨p'.W.put hd hq hr (f.k hy) (Al.mo f ha) ⟨U, _, _, _, rfl, hU, rfl, rfl, trivial⟩, p.R.put o.keys hk hd hr, p.B.put hd hr, ?_, ?_⟩, adr_set hd _⟩
  · have fx : Fx [q] H' (upd H' q (.lst (ys ++ [.ref U]))) := Fx.put (f.k hy) (List.mem_singleton.mpr rfl) (fun _ z => nomatch z)
    refine p'.M.keep fx (fun z => nq ?_) (fun r hr z => nq ?_)
    · rw [← List.mem_singleton.mp z]; exact p.M.newp
    · rw [← List.mem_singleton.mp z]; exact p.M.new r hr
  · rw [adr_set hd]; exact p.old
end
/-- the move of an edit from the state q -/
def EdE (m : Mach) (e : List Nat × List Nat × Nat) (k : Option Nat) (q : Nat) (s' : Stg) (c : Nat) : Prop := c = e.2.2 ∧ Lead (Em m) e.2.1 q s'.1 ∧ match k with
  | none => e.1 = [] ∧ s'.2 = []
  | some x => e.1 = x :: s'.2
def spPutEdits (C : Addr) : Sp := fun vs H Q _ => ∃ (H0 H1 : Hp) (b : Book) (m : Mach) (sts : List Stg) (L : List MatD) (S : Option Nat → Nat → Nat → Nat → Prop) (home t q : Nat) (sf dx : Addr) (vb vm : V) (as : Addr) (xs : List V) (ah rd a : Addr) (rs : List Addr),
  vs = [.ref sf, .ref a, .int (home : Int), .int (q : Int)] ∧ PSt C H0 H1 H b m sts L S home t sf dx vb vm as xs ah rd a rs ∧ SOk b m sts ∧ sts[home]? = some (q, []) ∧ t ≤ 1000 ∧
  ∀ (H' : Hp) (L' : List MatD) (t' : Nat), PSt C H0 H1 H' b m sts L' (fun k h to c => S k h to c ∨ (h = home ∧ ∃ s', sts[to]? = some s' ∧ ∃ e, e ∈ b.2 ∧ EdE m e k q s' c)) home t' sf dx vb vm as xs ah rd a rs → adr L' = adr L → Q .non H'
theorem str_nil : ("" : Str) = ⟨([] : List Nat).toArray⟩ := by decide +kernel
theorem at_head (l : List Nat) (x : Nat) : atI (⟨(x :: l).toArray⟩ : Str).cps.toList 0 = some x := by
  show atI (x :: l) ((0 : Nat) : Int) = some x
  exact atI_nat rfl
theorem cut_tail (l : List Nat) (x : Nat) : cutS ⟨(x :: l).toArray⟩ (some 1) none = ⟨l.toArray⟩ := by
  have := cut_from (x :: l) 1
  exact this
theorem dec_str_nil (l : List Nat) : decide (V.str ⟨l.toArray⟩ = V.str "") = decide (l = []) := by
  rw [str_nil]
  by_cases h : l = []
  · subst h; rw [decide_eq_true rfl, decide_eq_true rfl]
  · rw [decide_eq_false h, decide_eq_false]
    intro z
    exact h (str_inj (V.str.inj z))
section
variable {P : Program} {w : World} {K : PySem.W.Frag} {g : Str → Option Value} {base : Heap}
theorem ok_MoveWeb_put_edits (T : Txt K g) : FnOk P w K g base CX0 3 T.d_MoveWeb_put_edits.f T.d_MoveWeb_put_edits.fd P_MoveWeb_put_edits (spPutEdits T.c_MoveWeb) := by
  refine T.d_MoveWeb_put_edits.F.ok sc_MoveWeb_put_edits (fun vs H Q E h => ?_) (fun cdv A outer s H vs Q E hr h => ?_)
  · obtain ⟨_, _, _, _, _, _, _, _, _, _, _, _, _, _, _, _, _, _, _, _, rfl, _⟩ := h
    rfl
  · obtain ⟨H0, H1, b, m, sts, L, S, home, t, q, sf, dx, vb, vm, as, xs, ah, rd, a, rs, rfl, p, o, hst, ht, kk⟩ := h
    have hu := hu_of hr
    refine ⟨_, (pss_one (ps_for PassesOwn.never rfl (ki_tup (K := K) rfl (pe_ix (kx_tup (K := K) rfl) (ke_fld (K := K) rfl (pv 0) rfl) pe_int (fun _ _ => rfl))) (kg_tup (K := K) 3 rfl rfl (pgs_cons (pg_name (i := 4) sc_MoveWeb_put_edits.nd rfl (by first | exact Or.inl rfl | exact Or.inr rfl)) (pgs_cons (pg_name (i := 5) sc_MoveWeb_put_edits.nd rfl (by first | exact Or.inl rfl | exact Or.inr rfl)) (pgs_cons (pg_name (i := 6) sc_MoveWeb_put_edits.nd rfl (by first | exact Or.inl rfl | exact Or.inr rfl)) pgs_nil))))
      (pss_one (ps_for PassesOwn.never rfl (ki_tup (K := K) rfl (pe_call (ok_states_along T) (hr.mono (by decide)) rfl T.d_states_along.mg T.d_states_along.kp T.d_states_along.b .nil pass0 (pa_cons (pv 1) (pa_cons (pe_tup (pa_cons (pv 3) pa_nil)) (pa_cons (pv 5) pa_nil))))) (pg_name (i := 7) sc_MoveWeb_put_edits.nd rfl (by first | exact Or.inl rfl | exact Or.inr rfl))
        (pss_one (ps_if (pt_cmpR op_eq (pv 4) pe_str (nomark _))
          (pss_one (ps_expr (ke_bm (K := K) rfl PySem.F.plainAttrs_list PySem.F.slot_list_append PySem.F.type_list_append mt_append (pe_ix (kx_list (K := K) rfl) (ke_fld (K := K) rfl (pv 0) rfl) (pv 2) (fun _ _ => rfl)) (pa_cons (pe_tup (pa_cons (pe_dget hu (ke_fld (K := K) rfl (pv 0) rfl) (pe_tup (pa_cons (pv 7) (pa_cons pe_str pa_nil))) (fun _ _ => rfl)) (pa_cons (pv 6) (pa_cons (pe_tup (pa_cons (pv 4) (pa_cons (pv 5) pa_nil))) pa_nil)))) pa_nil))))
          (pss_one (ps_expr (ke_bm (K := K) rfl PySem.F.plainAttrs_list PySem.F.slot_list_append PySem.F.type_list_append mt_append (pe_ix (kx_list (K := K) rfl) (pe_dget hu (ke_fld (K := K) rfl (pv 0) rfl) (pe_ix ix_str (pv 4) pe_int (fun _ _ => rfl)) (fun _ _ => rfl)) (pv 2) (fun _ _ => rfl)) (pa_cons (pe_tup (pa_cons (pe_dget hu (ke_fld (K := K) rfl (pv 0) rfl) (pe_tup (pa_cons (pv 7) (pa_cons (pe_slice sl_str (pv 4) (po_some pe_int) po_none) pa_nil))) (fun _ _ => rfl)) (pa_cons (pv 6) (pa_cons (pe_tup (pa_cons (pv 4) (pa_cons (pv 5) pa_nil))) pa_nil)))) pa_nil)))))))))), ?_⟩
    obtain ⟨p0, hp0, hins⟩ := p.W.ins
    obtain ⟨bk, vl, ve, rfl, hbk, rfl, hed⟩ := id p.W.hb
    obtain ⟨c, eds, rfl, hc, heds⟩ := id hed
    have hhome : home < sts.length := (List.getElem?_eq_some_iff.mp hst).1
    have hq : q < m.1 := ((o.mem (q, [])).mp (List.mem_of_getElem? hst)).1
    have hn := o.bk.few
    refine ⟨_, rfl, sf, _, dx, _, _, rfl, hins, T.cl_MoveWeb, T.na_MoveWeb_book, wfl_b, bk, _, _, _, rfl, rfl, SqT.of hbk, rfl, c, rfl, ⟨_, SqT.of hc⟩, for_tup (K := K) (a := c) (xs := eds) (fun i σ' H' => ∃ (L' : List MatD) (t' : Nat) (o1 o2 o3 o4 : Option V),
      σ' = [some (.ref sf), some (.ref a), some (.int (home : Int)), some (.int (q : Int)), o1, o2, o3, o4] ∧ H' c = some (.tup eds) ∧ Al (rP3 rS rS rN) H' eds b.2 ∧ t' ≤ t + 60 * i ∧ adr L' = adr L ∧
      PSt T.c_MoveWeb H0 H1 H' b m sts L' (fun k h to c => S k h to c ∨ (h = home ∧ ∃ s', sts[to]? = some s' ∧ ∃ e, e ∈ b.2.take i ∧ EdE m e k q s' c)) home t' sf dx (.ref bk) vm as xs ah rd a rs)
      ⟨L, t, none, none, none, none, rfl, hc, heds, by omega, rfl, p.imp fun k h to c _ _ => ⟨.inl, fun z => z.elim id fun ⟨_, s', _, e, he, _⟩ => nomatch he⟩⟩ (fun i σ' H' _ ⟨_, _, _, _, _, _, _, e, _⟩ => SqT.of e) ?_ ?_⟩
    · rintro i x σ' H' hx ⟨L1, t1, o1, o2, o3, o4, rfl, hcH, hedsH, ht1, hadr, p1⟩
      obtain ⟨ed, hed, hxr⟩ := hedsH.get hx
      obtain ⟨u, x1, x2, x3, rfl, hu2, rfl, rfl, rfl⟩ := id hxr
      have hem : ed ∈ b.2 := List.mem_of_getElem? hed
      refine ⟨u, _, rfl, SqT.of hu2, rfl, _, _, rfl, _, _, rfl, _, _, rfl, rfl, ?_⟩
      -- for to in states_along(rows, (state,), write)
      refine ⟨_, rfl, _, rfl, by show 1 ≤ sizeLine; decide, fun U hU => ?_⟩
      have fU : Fe H' (upd H' U (.tup [.int (q : Int)])) := Fe.new hU
      have p2 := p1.f fU
      refine ⟨_, rfl, stepRows m.1 m.2.2, [q], ed.2.1, .ref a, .ref U, rfl, p2.M.rl, ⟨U, _, rfl, upd_same, .cons rfl .nil⟩, o.web, ?_, by simp, fun v H2 l e2 hl hln hm => ?_⟩
      · intro r hr
        rw [List.mem_singleton.mp hr, stepRows_len]; exact hq
      obtain ⟨al, ls, rfl, hal, hls⟩ := id hl
      have p3 := p2.f e2
      have f2 := fU.trans e2
      have hm' : ∀ r, r ∈ l ↔ Lead (Em m) ed.2.1 q r := fun r => by
        rw [hm r, ← lead_em o.mo hq]
        exact ⟨fun ⟨z, h1, h2⟩ => by rw [List.mem_singleton.mp h1] at h2; exact h2, fun h => ⟨q, List.mem_singleton.mpr rfl, h⟩⟩
      refine ⟨al, rfl, ⟨_, SqT.of hal⟩, for_tup (K := K) (a := al) (xs := ls) (fun j σ' H' => ∃ (L' : List MatD) (o4 : Option V),
        σ' = [some (.ref sf), some (.ref a), some (.int (home : Int)), some (.int (q : Int)), some (.str ⟨ed.1.toArray⟩), some (.str ⟨ed.2.1.toArray⟩), some (.int (ed.2.2 : Int)), o4] ∧ H' c = some (.tup eds) ∧ Al (rP3 rS rS rN) H' eds b.2 ∧ H' al = some (.tup ls) ∧ adr L' = adr L ∧
        PSt T.c_MoveWeb H0 H1 H' b m sts L' (fun k h to c => (S k h to c ∨ (h = home ∧ ∃ s', sts[to]? = some s' ∧ ∃ e, e ∈ b.2.take i ∧ EdE m e k q s' c)) ∨ (h = home ∧ ∃ s', sts[to]? = some s' ∧ s'.1 ∈ l.take j ∧ EdE m ed k q s' c)) home (t1 + j) sf dx (.ref bk) vm as xs ah rd a rs)
        ⟨L1, o4, rfl, f2.k hcH, Al.mo f2 hedsH, hal, hadr, p3.imp fun k h to c _ _ => ⟨.inl, fun z => z.elim id fun ⟨_, s', _, e, _⟩ => nomatch e⟩⟩ (fun i σ' H' _ ⟨_, _, _, _, _, e, _⟩ => SqT.of e) ?_ ?_⟩
      · rintro j x σ' H3 hx ⟨L3, o4, rfl, hc3, heds3, hal3, hadr3, p4⟩
        obtain ⟨r, hr2, rfl⟩ := hls.get hx
        have hrl : Lead (Em m) ed.2.1 q r := (hm' r).mp (List.mem_of_getElem? hr2)
        have hrm : r < m.1 := lead_em_lt o.mo hq hrl
        have hjl : l.take (j + 1) = l.take j ++ [r] := by rw [List.take_add_one, hr2]; rfl
        have hlen60 : j < 60 := by
          have h1 := nodup_below m.1 l hln fun r hr => lead_em_lt o.mo hq ((hm' r).mp hr)
          have h2 := (List.getElem?_eq_some_iff.mp hr2).1
          have h3 := o.few
          omega
        have hil : i < 60 := by
          have := (List.getElem?_eq_some_iff.mp hed).1
          omega
        obtain ⟨p0', hp0', hins3⟩ := p4.W.ins
        refine ⟨_, rfl, rfl, _, rfl, ?_⟩
        rw [dec_str_nil]
        cases hrd : ed.1 with
        | nil =>
          rw [decide_eq_true rfl]
          refine iteT ?_
          obtain ⟨idx, hidx⟩ := o.idx (s := (r, [])) hrm (.inl rfl)
          obtain ⟨d, qq, row, ys, hd, hqq, hrow, hys, hal4, hyl, hd1, hd2⟩ := p4.at (j := 0) (k := none) rfl hhome
          have e0 : p0' = d.1 := by rw [hp0'] at hd2; exact Option.some.inj hd2
          subst e0
          -- self.silent[home].append((self.homes[(to, "")], cost, (read, write)))
          refine ⟨_, rfl, sf, _, dx, _, _, rfl, hins3, T.cl_MoveWeb, T.na_MoveWeb_silent, wfl_l, _, rfl, d.1, _, _, .ref qq, rfl, rfl, SqL.of hd1, atI_nat (by rw [List.getElem?_map, hqq]; rfl), .inl ⟨rfl, _, SqL.of hys⟩, ?_⟩
          refine ⟨_, rfl, sf, _, dx, _, _, rfl, hins3, T.cl_MoveWeb, T.na_MoveWeb_homes, wfl_h, _, rfl, by show 2 ≤ sizeLine; decide, fun U1 hU1 => ?_⟩
          have f1 : Fe H3 (upd H3 U1 (.tup [.int (r : Int), .str ""])) := Fe.new hU1
          have g1 : upd H3 U1 (.tup [.int (r : Int), .str ""]) U1 = some (.tup ((kSt (r, [])).map kV)) := by rw [upd_same, str_nil]; rfl
          refine ⟨ah, .int (idx : Int), rfl, by rw [← hkvs_at o.nd hidx]; exact DGet.t (f1.k p4.W.hh) g1, ?_⟩
          refine ⟨_, rfl, _, rfl, _, rfl, by show 2 ≤ sizeLine; decide, fun U2 hU2 => ?_⟩
          have f2' := f1.trans (Fe.new (o := .tup [.str ⟨([] : List Nat).toArray⟩, .str ⟨ed.2.1.toArray⟩]) hU2)
          refine ⟨by show 3 ≤ sizeLine; decide, fun U3 hU3 => ?_⟩
          have f3 := f2'.trans (Fe.new (o := .tup [.int (idx : Int), .int (ed.2.2 : Int), .ref U2]) hU3)
          refine ⟨qq, ys, _, rfl, rfl, f3.k hys, by rw [sizeLine_eq]; omega, ?_⟩
          obtain ⟨L', p5, ha5⟩ := p4.put o f3 rfl hd hqq hrow hys hal4 (to := idx) (c := ed.2.2) (y := .ref U2) upd_same
          have cne : c ≠ qq := by
            intro z; rw [z, hys] at hc3; cases hc3
          have ane : al ≠ qq := by
            intro z; rw [z, hys] at hal3; cases hal3
          have fq : Fx [qq] _ _ := Fx.put (o := .lst (ys ++ [.ref U3])) (f3.k hys) (List.mem_singleton.mpr rfl) (fun _ z => nomatch z)
          refine ⟨L', _, rfl, by rw [upd_ne cne]; exact f3.k hc3, Al.mo fq (Al.mo f3 heds3), by rw [upd_ne ane]; exact f3.k hal3, by rw [ha5, hadr3], p5.imp fun k h to c hk hh => ?_⟩
          rw [hjl]
          constructor
          · rintro ((z | ⟨rfl, s', h1, h2, h3⟩) | ⟨rfl, rfl, rfl, rfl⟩)
            · exact .inl z
            · exact .inr ⟨rfl, s', h1, List.mem_append_left _ h2, h3⟩
            · exact .inr ⟨rfl, (r, []), hidx, List.mem_append_right _ (List.mem_singleton.mpr rfl), rfl, hrl, hrd, rfl⟩
          · rintro (z | ⟨rfl, s', h1, h2, h3⟩)
            · exact .inl (.inl z)
            · rcases List.mem_append.mp h2 with h2 | h2
              · exact .inl (.inr ⟨rfl, s', h1, h2, h3⟩)
              · have e1 : s'.1 = r := List.mem_singleton.mp h2
                obtain ⟨hc', _, hk'⟩ := h3
                cases k with
                | none =>
                  have e2 : s' = (r, []) := Prod.ext e1 hk'.2
                  subst e2
                  exact .inr ⟨rfl, rfl, nd_ix o.nd h1 hidx, hc'⟩
                | some x =>
                  have hk' : ed.1 = x :: s'.2 := hk'
                  rw [hrd] at hk'; cases hk'
        | cons x rd' =>
          rw [decide_eq_false (by intro z; cases z)]
          refine iteF ?_
          have hxl : x ∈ b.1 := o.bk.lets ed hem x (by rw [hrd]; exact List.mem_cons_self)
          obtain ⟨jj, hjj⟩ := List.mem_iff_getElem?.mp hxl
          have hrest : Rest b rd' := by
            cases rd' with
            | nil => exact .inl rfl
            | cons y rd'' => exact .inr ⟨ed, 1, hem, by omega, by rw [hrd]; simp, by rw [hrd]; rfl⟩
          obtain ⟨idx, hidx⟩ := o.idx (s := (r, rd')) hrm hrest
          have hkj : (keysOf b)[jj + 1]? = some (some x) := by
            show (b.1.map some)[jj]? = _
            rw [List.getElem?_map, hjj]; rfl
          obtain ⟨d, qq, row, ys, hd, hqq, hrow, hys, hal4, hyl, hd1, hd2⟩ := p4.at hkj hhome
          have hd2' : ((L3.map (·.1)).tail)[jj]? = some d.1 := by rw [List.getElem?_tail]; exact hd2
          -- self.reading[read[0]][home].append((self.homes[(to, read[1:])], cost, (read, write)))
          refine ⟨_, rfl, sf, _, dx, _, _, rfl, hins3, T.cl_MoveWeb, T.na_MoveWeb_reading, wfl_r, _, rfl, _, 0, x, rfl, rfl, by rw [slen, sizeLine_eq]; have := o.bk.len ed hem; rw [hrd] at this; omega, at_head rd' x, ?_⟩
          refine ⟨rd, .ref d.1, rfl, by rw [← rkvs_at o.ln hjj hd2']; exact DGet.k (k := kS [x]) p4.W.hr, _, rfl, d.1, _, _, .ref qq, rfl, rfl, SqL.of hd1, atI_nat (by rw [List.getElem?_map, hqq]; rfl), .inl ⟨rfl, _, SqL.of hys⟩, ?_⟩
          refine ⟨_, rfl, sf, _, dx, _, _, rfl, hins3, T.cl_MoveWeb, T.na_MoveWeb_homes, wfl_h, _, rfl, _, rfl, 1, rfl, _, rfl, by rw [slen, sizeLine_eq]; have := o.bk.len ed hem; rw [hrd] at this; omega, by show 2 ≤ sizeLine; decide, fun U1 hU1 => ?_⟩
          rw [cut_tail]
          have f1 : Fe H3 (upd H3 U1 (.tup [.int (r : Int), .str ⟨rd'.toArray⟩])) := Fe.new hU1
          have g1 : upd H3 U1 (.tup [.int (r : Int), .str ⟨rd'.toArray⟩]) U1 = some (.tup ((kSt (r, rd')).map kV)) := by rw [upd_same]; rfl
          refine ⟨ah, .int (idx : Int), rfl, by rw [← hkvs_at o.nd hidx]; exact DGet.t (f1.k p4.W.hh) g1, ?_⟩
          refine ⟨_, rfl, _, rfl, _, rfl, by show 2 ≤ sizeLine; decide, fun U2 hU2 => ?_⟩
          have f2' := f1.trans (Fe.new (o := .tup [.str ⟨(x :: rd').toArray⟩, .str ⟨ed.2.1.toArray⟩]) hU2)
          refine ⟨by show 3 ≤ sizeLine; decide, fun U3 hU3 => ?_⟩
          have f3 := f2'.trans (Fe.new (o := .tup [.int (idx : Int), .int (ed.2.2 : Int), .ref U2]) hU3)
          refine ⟨qq, ys, _, rfl, rfl, f3.k hys, by rw [sizeLine_eq]; omega, ?_⟩
          obtain ⟨L', p5, ha5⟩ := p4.put o f3 hkj hd hqq hrow hys hal4 (to := idx) (c := ed.2.2) (y := .ref U2) upd_same
          have cne : c ≠ qq := by
            intro z; rw [z, hys] at hc3; cases hc3
          have ane : al ≠ qq := by
            intro z; rw [z, hys] at hal3; cases hal3
          have fq : Fx [qq] _ _ := Fx.put (o := .lst (ys ++ [.ref U3])) (f3.k hys) (List.mem_singleton.mpr rfl) (fun _ z => nomatch z)
          refine ⟨L', _, rfl, by rw [upd_ne cne]; exact f3.k hc3, Al.mo fq (Al.mo f3 heds3), by rw [upd_ne ane]; exact f3.k hal3, by rw [ha5, hadr3], p5.imp fun k h to c hk hh => ?_⟩
          rw [hjl]
          constructor
          · rintro ((z | ⟨rfl, s', h1, h2, h3⟩) | ⟨rfl, rfl, rfl, rfl⟩)
            · exact .inl z
            · exact .inr ⟨rfl, s', h1, List.mem_append_left _ h2, h3⟩
            · exact .inr ⟨rfl, (r, rd'), hidx, List.mem_append_right _ (List.mem_singleton.mpr rfl), rfl, hrl, hrd⟩
          · rintro (z | ⟨rfl, s', h1, h2, h3⟩)
            · exact .inl (.inl z)
            · rcases List.mem_append.mp h2 with h2 | h2
              · exact .inl (.inr ⟨rfl, s', h1, h2, h3⟩)
              · have e1 : s'.1 = r := List.mem_singleton.mp h2
                obtain ⟨hc', _, hk'⟩ := h3
                cases k with
                | none =>
                  rw [hrd] at hk'; cases hk'.1
                | some y =>
                  have hk' : ed.1 = y :: s'.2 := hk'
                  rw [hrd] at hk'
                  injection hk' with e2 e3
                  have e4 : s' = (r, rd') := Prod.ext e1 e3.symm
                  subst e4
                  exact .inr ⟨by rw [e2], rfl, nd_ix o.nd h1 hidx, hc'⟩
      · rintro σ' H3 ⟨L3, o4, rfl, hc3, heds3, hal3, hadr3, p4⟩
        have hl60 : l.length ≤ 60 := by
          have h1 := nodup_below m.1 l hln fun r hr => lead_em_lt o.mo hq ((hm' r).mp hr)
          have h3 := o.few
          omega
        refine ⟨L3, _, _, _, _, _, rfl, hc3, heds3, by rw [hls.len]; omega, hadr3, p4.imp fun k h to c _ _ => ?_⟩
        rw [hls.len, List.take_length, List.take_add_one, hed]
        constructor
        · rintro ((z | ⟨rfl, s', h1, e, h2, h3⟩) | ⟨rfl, s', h1, h2, h3⟩)
          · exact .inl z
          · exact .inr ⟨rfl, s', h1, e, List.mem_append_left _ h2, h3⟩
          · exact .inr ⟨rfl, s', h1, ed, List.mem_append_right _ (List.mem_singleton.mpr rfl), h3⟩
        · rintro (z | ⟨rfl, s', h1, e, h2, h3⟩)
          · exact .inl (.inl z)
          · rcases List.mem_append.mp h2 with h2 | h2
            · exact .inl (.inr ⟨rfl, s', h1, e, h2, h3⟩)
            · have e2 : e = ed := List.mem_singleton.mp h2
              subst e2
              exact .inr ⟨rfl, s', h1, (hm' _).mpr h3.2.1, h3⟩
    · rintro σ' H' ⟨L', t', o1, o2, o3, o4, rfl, _, _, _, hadr, p'⟩
      refine kk H' L' t' (p'.imp fun k h to c _ _ => ?_) hadr
      rw [heds.len, List.take_length]
end
end Fm
namespace Fm
open PySem L2
/-- which moves lead from the standing of number h: those of the document -/
def Told (b : Book) (m : Mach) (sts : List Stg) (k : Option Nat) (h to c : Nat) : Prop := ∃ s s', sts[h]? = some s ∧ sts[to]? = some s' ∧ Mv b m k s s' c
def spPutMoves (C : Addr) : Sp := fun vs H Q _ => ∃ (H0 H1 : Hp) (b : Book) (m : Mach) (sts : List Stg) (L : List MatD) (sf dx : Addr) (vb vm : V) (as : Addr) (xs : List V) (ah rd a : Addr) (rs : List Addr),
  vs = [.ref sf, .ref a] ∧ PSt C H0 H1 H b m sts L (fun _ _ _ _ => False) 0 0 sf dx vb vm as xs ah rd a rs ∧ SOk b m sts ∧ sts.length ≤ 100000 ∧
  ∀ (H' : Hp) (L' : List MatD), WAt C H0 H' b m sts L' sf dx vb vm as xs ah rd → Rows sts.length (keysOf b) L' (Told b m sts) → Q .non H'
theorem mv_rest {b : Book} {m : Mach} {k : Option Nat} {q y : Nat} {r : List Nat} {s' : Stg} {c : Nat} : Mv b m k (q, y :: r) s' c ↔ (k = some y ∧ s' = (q, r) ∧ c = 0) := by
  cases k with
  | none => exact ⟨fun h => (by cases h.1), fun h => (by cases h.1)⟩
  | some x =>
    constructor
    · rintro (⟨r', h1, h2, h3⟩ | ⟨h, _⟩ | ⟨h, _⟩)
      · cases h1; exact ⟨rfl, h2, h3⟩
      · cases h
      · cases h
    · rintro ⟨h1, h2, h3⟩
      cases h1
      exact .inl ⟨r, rfl, h2, h3⟩
theorem mv_nil {b : Book} {m : Mach} {k : Option Nat} {q : Nat} {s' : Stg} {c : Nat} : Mv b m k (q, []) s' c ↔ ((∃ x, k = some x ∧ s'.2 = [] ∧ Em m q x s'.1 ∧ c = 0) ∨ ∃ e, e ∈ b.2 ∧ EdE m e k q s' c) := by
  cases k with
  | none =>
    constructor
    · rintro ⟨_, h2, wr, h3, h4⟩
      exact .inr ⟨_, h3, rfl, h4, rfl, h2⟩
    · rintro (⟨x, h, _⟩ | ⟨⟨rd, wr, c'⟩, h1, rfl, h2, h3, h4⟩)
      · cases h
      · have h3 : rd = [] := h3
        subst h3
        exact ⟨rfl, h4, wr, h1, h2⟩
  | some x =>
    constructor
    · rintro (⟨r', h1, _⟩ | ⟨_, h1, h2, h3⟩ | ⟨_, rd, wr, h1, h2, h3⟩)
      · cases h1
      · exact .inl ⟨x, rfl, h1, h2, h3⟩
      · exact .inr ⟨_, h1, rfl, h3, by rw [h2]⟩
    · rintro (⟨y, h, h1, h2, h3⟩ | ⟨⟨rd, wr, c'⟩, h1, rfl, h2, h3⟩)
      · cases h
        exact .inr (.inl ⟨rfl, h1, h2, h3⟩)
      · have h3 : rd = x :: s'.2 := h3
        subst h3
        exact .inr (.inr ⟨rfl, s'.2, wr, h1, rfl, h2⟩)
section
variable {P : Program} {w : World} {K : PySem.W.Frag} {g : Str → Option Value} {base : Heap}
theorem ok_MoveWeb_put_moves (T : Txt K g) : FnOk P w K g base CX0 4 T.d_MoveWeb_put_moves.f T.d_MoveWeb_put_moves.fd P_MoveWeb_put_moves (spPutMoves T.c_MoveWeb) := by
  refine T.d_MoveWeb_put_moves.F.ok sc_MoveWeb_put_moves (fun vs H Q E h => ?_) (fun cdv A outer s H vs Q E hr h => ?_)
  · obtain ⟨_, _, _, _, _, _, _, _, _, _, _, _, _, _, _, _, rfl, _⟩ := h
    rfl
  · obtain ⟨H0, H1, b, m, sts, L, sf, dx, vb, vm, as, xs, ah, rd, a, rs, rfl, p, o, hsz, kk⟩ := h
    have hu := hu_of hr
    refine ⟨_, (pss_one (ps_for PassesOwn.never rfl (ki_enum (K := K) rfl rfl T.z_enumerate (pa_cons (ke_fld (K := K) rfl (pv 0) rfl) pa_nil)) (kg_tup (K := K) 2 rfl rfl (pgs_cons (pg_name (i := 2) sc_MoveWeb_put_moves.nd rfl (by first | exact Or.inl rfl | exact Or.inr rfl)) (pgs_cons (kg_tup (K := K) 2 rfl rfl (pgs_cons (pg_name (i := 3) sc_MoveWeb_put_moves.nd rfl (by first | exact Or.inl rfl | exact Or.inr rfl)) (pgs_cons (pg_name (i := 4) sc_MoveWeb_put_moves.nd rfl (by first | exact Or.inl rfl | exact Or.inr rfl)) pgs_nil))) pgs_nil)))
      (pss_one (ps_if (kt_truth (K := K) rfl (pv 4))
        (pss_one (ps_expr (ke_bm (K := K) rfl PySem.F.plainAttrs_list PySem.F.slot_list_append PySem.F.type_list_append mt_append (pe_ix (kx_list (K := K) rfl) (pe_dget hu (ke_fld (K := K) rfl (pv 0) rfl) (pe_ix ix_str (pv 4) pe_int (fun _ _ => rfl)) (fun _ _ => rfl)) (pv 2) (fun _ _ => rfl)) (pa_cons (pe_tup (pa_cons (pe_dget hu (ke_fld (K := K) rfl (pv 0) rfl) (pe_tup (pa_cons (pv 3) (pa_cons (pe_slice sl_str (pv 4) (po_some pe_int) po_none) pa_nil))) (fun _ _ => rfl)) (pa_cons pe_int (pa_cons pe_non pa_nil)))) pa_nil))))
        (pss_cons (ps_for PassesOwn.never rfl (ki_list (K := K) rfl (pe_ix (kx_list (K := K) rfl) (pv 1) (pv 3) (fun _ _ => rfl))) (kg_tup (K := K) 2 rfl rfl (pgs_cons (pg_name (i := 5) sc_MoveWeb_put_moves.nd rfl (by first | exact Or.inl rfl | exact Or.inr rfl)) (pgs_cons (pg_name (i := 6) sc_MoveWeb_put_moves.nd rfl (by first | exact Or.inl rfl | exact Or.inr rfl)) pgs_nil)))
          (pss_one (ps_expr (ke_bm (K := K) rfl PySem.F.plainAttrs_list PySem.F.slot_list_append PySem.F.type_list_append mt_append (pe_ix (kx_list (K := K) rfl) (pe_dget hu (ke_fld (K := K) rfl (pv 0) rfl) (pv 5) (fun _ _ => rfl)) (pv 2) (fun _ _ => rfl)) (pa_cons (pe_tup (pa_cons (pe_dget hu (ke_fld (K := K) rfl (pv 0) rfl) (pe_tup (pa_cons (pv 6) (pa_cons pe_str pa_nil))) (fun _ _ => rfl)) (pa_cons pe_int (pa_cons (pe_tup (pa_cons (pv 5) (pa_cons (pv 5) pa_nil))) pa_nil)))) pa_nil)))))
        (pss_one (ps_expr (pe_meth (pv 0) T.cl_MoveWeb T.d_MoveWeb_put_edits.m (ok_MoveWeb_put_edits T) (hr.mono (by decide)) T.d_MoveWeb_put_edits.b .nil pass0 (pa_cons (pv 1) (pa_cons (pv 2) (pa_cons (pv 3) pa_nil))))))))))), ?_⟩
    obtain ⟨p0, hp0, hins⟩ := p.W.ins
    refine ⟨_, rfl, sf, _, dx, _, _, rfl, hins, T.cl_MoveWeb, T.na_MoveWeb_standings, wfl_s, as, xs, rfl, SqL.of p.W.hs, for_enum (xs := xs) (fun i σ' H' => ∃ (L' : List MatD) (o1 o2 o3 o4 o5 : Option V),
      σ' = [some (.ref sf), some (.ref a), o1, o2, o3, o4, o5] ∧ adr L' = adr L ∧ PSt T.c_MoveWeb H0 H1 H' b m sts L' (fun k h to c => h < i ∧ Told b m sts k h to c) i 0 sf dx vb vm as xs ah rd a rs)
      ⟨L, none, none, none, none, none, rfl, rfl, p.imp fun k h to c _ _ => ⟨fun z => z.elim, fun z => by omega⟩⟩ (fun i σ' H' _ ⟨_, _, _, _, _, _, _, _, p'⟩ => p'.W.hs) ?_ ?_⟩
    · rintro i x σ' H' U hx ⟨L1, o1, o2, o3, o4, o5, rfl, hadr, p1⟩ hU
      obtain ⟨⟨q, rest⟩, hst, hxr⟩ := p1.W.hx.get hx
      obtain ⟨u, x1, x2, rfl, hu2, rfl, rfl⟩ := id hxr
      have hih : i < sts.length := (List.getElem?_eq_some_iff.mp hst).1
      have hsm := (o.mem (q, rest)).mp (List.mem_of_getElem? hst)
      have hq : q < m.1 := hsm.1
      have fU : Fe H' (upd H' U (.tup [.int (i : Int), .ref u])) := Fe.new hU
      refine ⟨U, _, rfl, SqT.of upd_same, rfl, _, _, rfl, _, _, rfl, u, _, rfl, SqT.of (fU.k hu2), rfl, _, _, rfl, _, _, rfl, rfl, rfl, ?_⟩
      have p2 := p1.f fU
      -- what is due behind this standing
      have fin : ∀ {H2 : Hp} {L2 : List MatD} {S2 : Option Nat → Nat → Nat → Nat → Prop} {t2 : Nat}, PSt T.c_MoveWeb H0 H1 H2 b m sts L2 S2 i t2 sf dx vb vm as xs ah rd a rs →
          (∀ k h to c, k ∈ keysOf b → (S2 k h to c ↔ (h < i ∧ Told b m sts k h to c) ∨ (h = i ∧ ∃ s', sts[to]? = some s' ∧ Mv b m k (q, rest) s' c))) →
          PSt T.c_MoveWeb H0 H1 H2 b m sts L2 (fun k h to c => h < i + 1 ∧ Told b m sts k h to c) (i + 1) 0 sf dx vb vm as xs ah rd a rs := fun p3 hS => by
        have R := p3.R.imp (S' := fun k h to c => h < i + 1 ∧ Told b m sts k h to c) fun k h to c hk _ => by
          rw [hS k h to c hk]
          constructor
          · rintro (⟨h1, h2⟩ | ⟨rfl, s', h1, h2⟩)
            · exact ⟨by omega, h2⟩
            · exact ⟨by omega, _, s', hst, h1, h2⟩
          · rintro ⟨h1, h2⟩
            by_cases e : h = i
            · subst e
              obtain ⟨s, s', h3, h4, h5⟩ := h2
              rw [hst] at h3; cases h3
              exact .inr ⟨rfl, s', h4, h5⟩
            · exact .inl ⟨by omega, h2⟩
        exact ⟨p3.W, R, Bd.none_ R fun k to c h => by omega, p3.M, p3.old⟩
      refine ⟨_, rfl, _, ⟨by rw [slen, sizeLine_eq]; rcases hsm.2 with h | ⟨e, k, h1, h2, h3, h4⟩; (have h : rest = [] := h; rw [h]; simp); (have h4 : rest = e.1.drop k := h4; rw [h4, List.length_drop]; have := o.bk.len e h1; omega), rfl⟩, ?_⟩
      rw [slen]
      cases rest with
      | cons y r =>
        refine iteT ?_
        have hyl : y ∈ b.1 := by
          rcases hsm.2 with h | ⟨e, k, h1, h2, h3, h4⟩
          · cases h
          · have h4 : y :: r = e.1.drop k := h4
            exact o.bk.lets e h1 y (List.mem_of_mem_drop (h4 ▸ List.mem_cons_self))
        have hrr : Rest b r := by
          rcases hsm.2 with h | ⟨e, k, h1, h2, h3, h4⟩
          · cases h
          · have h4 : y :: r = e.1.drop k := h4
            cases r with
            | nil => exact .inl rfl
            | cons z r' =>
              refine .inr ⟨e, k + 1, h1, by omega, ?_, ?_⟩
              · have := congrArg List.length h4
                rw [List.length_drop] at this
                simp at this
                omega
              · rw [← List.drop_drop, ← h4]; rfl
        have hrl : r.length ≤ 3 := by
          rcases hrr with h | ⟨e, k, h1, h2, h3, h4⟩
          · rw [h]; simp
          · rw [h4, List.length_drop]; have := o.bk.len e h1; omega
        obtain ⟨jj, hjj⟩ := List.mem_iff_getElem?.mp hyl
        have hkj : (keysOf b)[jj + 1]? = some (some y) := by
          show (b.1.map some)[jj]? = _
          rw [List.getElem?_map, hjj]; rfl
        obtain ⟨idx, hidx⟩ := o.idx (s := (q, r)) hq hrr
        obtain ⟨d, qq, row, ys, hd, hqq, hrow, hys, hal4, hyl2, hd1, hd2⟩ := p2.at hkj hih
        have hd2' : ((L1.map (·.1)).tail)[jj]? = some d.1 := by rw [List.getElem?_tail]; exact hd2
        obtain ⟨p0', hp0', hins3⟩ := p2.W.ins
        refine ⟨_, rfl, sf, _, dx, _, _, rfl, hins3, T.cl_MoveWeb, T.na_MoveWeb_reading, wfl_r, _, rfl, _, 0, y, rfl, rfl, by rw [slen, sizeLine_eq, List.length_cons]; omega, at_head r y, ?_⟩
        refine ⟨rd, .ref d.1, rfl, by rw [← rkvs_at o.ln hjj hd2']; exact DGet.k (k := kS [y]) p2.W.hr, _, rfl, d.1, _, _, .ref qq, rfl, rfl, SqL.of hd1, atI_nat (by rw [List.getElem?_map, hqq]; rfl), .inl ⟨rfl, _, SqL.of hys⟩, ?_⟩
        refine ⟨_, rfl, sf, _, dx, _, _, rfl, hins3, T.cl_MoveWeb, T.na_MoveWeb_homes, wfl_h, _, rfl, _, rfl, 1, rfl, _, rfl, by rw [slen, sizeLine_eq, List.length_cons]; omega, by show 2 ≤ sizeLine; decide, fun U1 hU1 => ?_⟩
        rw [cut_tail]
        have f1 := Fe.new (o := .tup [.int (q : Int), .str ⟨r.toArray⟩]) hU1
        refine ⟨ah, .int (idx : Int), rfl, by rw [← hkvs_at o.nd hidx]; exact DGet.t (k := kSt (q, r)) (f1.k p2.W.hh) upd_same, ?_⟩
        refine ⟨by show 3 ≤ sizeLine; decide, fun U3 hU3 => ?_⟩
        have f3 := f1.trans (Fe.new (o := .tup [.int (idx : Int), .int 0, .non]) hU3)
        refine ⟨qq, ys, _, rfl, rfl, f3.k hys, by rw [sizeLine_eq]; omega, ?_⟩
        obtain ⟨L', p5, ha5⟩ := p2.put o f3 hkj hd hqq hrow hys hal4 (to := idx) (c := 0) (y := .non) upd_same
        refine ⟨L', _, _, _, _, _, rfl, by rw [ha5, hadr], fin p5 fun k h to c hk => ?_⟩
        constructor
        · rintro (z | ⟨rfl, rfl, rfl, rfl⟩)
          · exact .inl z
          · exact .inr ⟨rfl, _, hidx, mv_rest.mpr ⟨rfl, rfl, rfl⟩⟩
        · rintro (z | ⟨rfl, s', h1, h2⟩)
          · exact .inl z
          · obtain ⟨rfl, rfl, rfl⟩ := mv_rest.mp h2
            exact .inr ⟨rfl, rfl, nd_ix o.nd h1 hidx, rfl⟩
      | nil =>
        refine iteF ?_
        -- for letter, to in rows[state]
        have hrow0 := stepRows_at (n := m.1) (steps := m.2.2) hq
        obtain ⟨rr, cells, hrr, _, hcells, hals⟩ := p2.M.get hrow0
        refine ⟨_, rfl, _, rfl, a, _, _, .ref rr, rfl, rfl, SqL.of p2.M.at_, atI_nat (by rw [List.getElem?_map, hrr]; rfl), rr, rfl, ⟨_, SqL.of hcells⟩, for_lst (xs := cells) (fun j σ' H' => ∃ (L' : List MatD) (o4 o5 : Option V),
          σ' = [some (.ref sf), some (.ref a), some (.int (i : Int)), some (.int (q : Int)), some (.str ⟨([] : List Nat).toArray⟩), o4, o5] ∧ adr L' = adr L ∧ H' rr = some (.lst cells) ∧ Al (rP rC rN) H' cells ((m.2.2.filter fun s => s.1 == q).map (·.2)) ∧
          PSt T.c_MoveWeb H0 H1 H' b m sts L' (fun k h to c => (h < i ∧ Told b m sts k h to c) ∨ (h = i ∧ ∃ x s', k = some x ∧ sts[to]? = some s' ∧ s'.2 = [] ∧ (x, s'.1) ∈ ((m.2.2.filter fun s => s.1 == q).map (·.2)).take j ∧ c = 0)) i j sf dx vb vm as xs ah rd a rs)
          ⟨L1, o4, o5, rfl, hadr, hcells, hals, p2.imp fun k h to c _ _ => ⟨.inl, fun z => z.elim id fun ⟨_, x, s', _, _, _, e, _⟩ => nomatch e⟩⟩ (fun i σ' H' _ ⟨_, _, _, _, _, e, _⟩ => e) ?_ ?_⟩
        · rintro j x σ' H3 hx ⟨L3, o4, o5, rfl, hadr3, hc3, hal3, p4⟩
          obtain ⟨⟨y, r⟩, hyr, hxr⟩ := hal3.get hx
          obtain ⟨u4, x3, x4, rfl, hu4, rfl, rfl⟩ := id hxr
          have hmem : (q, y, r) ∈ m.2.2 := by
            obtain ⟨s, h1, h2⟩ := List.mem_map.mp (List.mem_of_getElem? hyr)
            obtain ⟨h3, h4⟩ := List.mem_filter.mp h1
            have h4 : s.1 = q := by simpa using h4
            obtain ⟨s1, s2⟩ := s
            cases h2; cases h4
            exact h3
          have hrm : r < m.1 := (o.mo.st _ hmem).2
          have hyl : y ∈ b.1 := o.ms _ hmem
          have hj100 : j < 100 := by
            have h1 := (List.getElem?_eq_some_iff.mp hyr).1
            rw [List.length_map] at h1
            have h2 := List.length_filter_le (fun s : Nat × Nat × Nat => s.1 == q) m.2.2
            have h3 := o.mo.fewS
            omega
          obtain ⟨jj, hjj⟩ := List.mem_iff_getElem?.mp hyl
          have hkj : (keysOf b)[jj + 1]? = some (some y) := by
            show (b.1.map some)[jj]? = _
            rw [List.getElem?_map, hjj]; rfl
          obtain ⟨idx, hidx⟩ := o.idx (s := (r, [])) hrm (.inl rfl)
          obtain ⟨d, qq, row, ys, hd, hqq, hrow, hys, hal4, hyl2, hd1, hd2⟩ := p4.at hkj hih
          have hd2' : ((L3.map (·.1)).tail)[jj]? = some d.1 := by rw [List.getElem?_tail]; exact hd2
          obtain ⟨p0', hp0', hins3⟩ := p4.W.ins
          refine ⟨u4, _, rfl, SqT.of hu4, rfl, _, _, rfl, _, _, rfl, rfl, ?_⟩
          refine ⟨_, rfl, sf, _, dx, _, _, rfl, hins3, T.cl_MoveWeb, T.na_MoveWeb_reading, wfl_r, _, rfl, ?_⟩
          refine ⟨rd, .ref d.1, rfl, by rw [← rkvs_at o.ln hjj hd2']; exact DGet.k (k := kS [y]) p4.W.hr, _, rfl, d.1, _, _, .ref qq, rfl, rfl, SqL.of hd1, atI_nat (by rw [List.getElem?_map, hqq]; rfl), .inl ⟨rfl, _, SqL.of hys⟩, ?_⟩
          refine ⟨_, rfl, sf, _, dx, _, _, rfl, hins3, T.cl_MoveWeb, T.na_MoveWeb_homes, wfl_h, _, rfl, by show 2 ≤ sizeLine; decide, fun U1 hU1 => ?_⟩
          have f1 := Fe.new (o := .tup [.int (r : Int), .str ""]) hU1
          have g1 : upd H3 U1 (.tup [.int (r : Int), .str ""]) U1 = some (.tup ((kSt (r, [])).map kV)) := by rw [upd_same, str_nil]; rfl
          refine ⟨ah, .int (idx : Int), rfl, by rw [← hkvs_at o.nd hidx]; exact DGet.t (f1.k p4.W.hh) g1, ?_⟩
          refine ⟨_, rfl, _, rfl, by show 2 ≤ sizeLine; decide, fun U2 hU2 => ?_⟩
          have f2 := f1.trans (Fe.new (o := .tup [.str ⟨#[y]⟩, .str ⟨#[y]⟩]) hU2)
          refine ⟨by show 3 ≤ sizeLine; decide, fun U3 hU3 => ?_⟩
          have f3 := f2.trans (Fe.new (o := .tup [.int (idx : Int), .int 0, .ref U2]) hU3)
          refine ⟨qq, ys, _, rfl, rfl, f3.k hys, by rw [sizeLine_eq]; omega, ?_⟩
          obtain ⟨L', p5, ha5⟩ := p4.put o f3 hkj hd hqq hrow hys hal4 (to := idx) (c := 0) (y := .ref U2) upd_same
          have rne : rr ≠ qq := by
            intro z
            have h1 := p4.old qq (mem_adr (List.mem_of_getElem? hd) (.inr (List.mem_of_getElem? hqq)))
            exact h1 (z ▸ p2.M.new rr (List.mem_of_getElem? hrr))
          have fq : Fx [qq] _ _ := Fx.put (o := .lst (ys ++ [.ref U3])) (f3.k hys) (List.mem_singleton.mpr rfl) (fun _ z => nomatch z)
          refine ⟨L', _, _, rfl, by rw [ha5, hadr3], by rw [upd_ne rne]; exact f3.k hc3, Al.mo fq (Al.mo f3 hal3), p5.imp fun k h to c hk hh => ?_⟩
          rw [List.take_add_one, hyr]
          constructor
          · rintro ((z | ⟨rfl, x, s', h1, h2, h3, h4, h5⟩) | ⟨rfl, rfl, rfl, rfl⟩)
            · exact .inl z
            · exact .inr ⟨rfl, x, s', h1, h2, h3, List.mem_append_left _ h4, h5⟩
            · exact .inr ⟨rfl, y, _, rfl, hidx, rfl, List.mem_append_right _ (List.mem_singleton.mpr rfl), rfl⟩
          · rintro (z | ⟨rfl, x, s', h1, h2, h3, h4, h5⟩)
            · exact .inl (.inl z)
            · rcases List.mem_append.mp h4 with h4 | h4
              · exact .inl (.inr ⟨rfl, x, s', h1, h2, h3, h4, h5⟩)
              · have e := List.mem_singleton.mp h4
                injection e with e1 e2
                have e3 : s' = (r, []) := Prod.ext e2 h3
                subst e3 e1
                exact .inr ⟨h1, rfl, nd_ix o.nd h2 hidx, h5⟩
        · rintro σ' H3 ⟨L3, o4, o5, rfl, hadr3, hc3, hal3, p4⟩
          obtain ⟨p0', hp0', hins3⟩ := p4.W.ins
          have hlen : cells.length ≤ 100 := by
            have h1 := hals.len
            rw [List.length_map] at h1
            have h2 := List.length_filter_le (fun s : Nat × Nat × Nat => s.1 == q) m.2.2
            have h3 := o.mo.fewS
            omega
          -- self.put_edits(rows, home, state)
          refine ⟨_, rfl, sf, dx, _, rfl, hins3, wfl_no (by decide +kernel) (by decide +kernel) (by decide +kernel) (by decide +kernel) (by decide +kernel) (by decide +kernel), _, rfl, _, rfl, _, rfl, ?_⟩
          refine ⟨H0, H1, b, m, sts, L3, _, i, cells.length, q, sf, dx, vb, vm, as, xs, ah, rd, a, rs, rfl, p4, o, hst, by omega, fun H4 L4 t4 p5 ha5 => ?_⟩
          refine ⟨L4, _, _, _, _, _, rfl, by rw [ha5, hadr3], fin p5 fun k h to c hk => ?_⟩
          rw [hals.len, List.take_length]
          constructor
          · rintro ((z | ⟨rfl, x, s', h1, h2, h3, h4, h5⟩) | ⟨rfl, s', h1, h2⟩)
            · exact .inl z
            · refine .inr ⟨rfl, s', h2, mv_nil.mpr (.inl ⟨x, h1, h3, ?_, h5⟩)⟩
              obtain ⟨s, h6, h7⟩ := List.mem_map.mp h4
              obtain ⟨h8, h9⟩ := List.mem_filter.mp h6
              have h9 : s.1 = q := by simpa using h9
              obtain ⟨s1, s2⟩ := s
              have h7 : s2 = (x, s'.1) := h7
              subst h7
              cases h9
              exact h8
            · exact .inr ⟨rfl, s', h1, mv_nil.mpr (.inr h2)⟩
          · rintro (z | ⟨rfl, s', h1, h2⟩)
            · exact .inl (.inl z)
            · rcases mv_nil.mp h2 with ⟨x, h3, h4, h5, h6⟩ | h3
              · exact .inl (.inr ⟨rfl, x, s', h3, h1, h4, List.mem_map.mpr ⟨(q, x, s'.1), List.mem_filter.mpr ⟨h5, by simp⟩, rfl⟩, h6⟩)
              · exact .inr ⟨rfl, s', h1, h3⟩
    · rintro σ' H' ⟨L', o1, o2, o3, o4, o5, rfl, hadr, p'⟩
      refine kk H' L' p'.W (p'.R.imp fun k h to c _ hh => ?_)
      rw [p'.W.hx.len]
      exact ⟨fun z => z.2, fun z => ⟨hh, z⟩⟩
end
end Fm
namespace Fm
open PySem L2
section
variable {g : TG} {tt : TT} {tk tv : TE} {vs : List Nat} {σ : L2.St} {H1 : Hp} {D : Addr} {Qd : Hp → Prop} {J : It} {o : HO}
/-- the turns of a dict's comprehension whose walk has n items -/
theorem dc_by (n : Nat) (Pv : Nat → Hp → Prop) (h0 : Pv 0 (upd H1 D o)) (hgo : ∀ i H, i < n → Pv i H → J.go i H) (hstop : ∀ H, Pv n H → J.stop n H)
    (hs : ∀ i x H H', i < n → Pv i H → J.yld i H x H' → g x (wipe σ vs) H' fun σ2 H2 => wipe σ2 vs = wipe σ vs ∧ tt σ2 H2 fun b H3 =>
      if b = true then tk σ2 H3 fun y H4 => tv σ2 H4 fun z H5 => ∃ H6, DPut H5 D y z H6 ∧ Pv (i + 1) H6 else Pv (i + 1) H3) (hd : ∀ H, Pv n H → Qd H) :
    ∃ W : Nat → Nat → Hp → Prop, (∃ m, W 0 m (upd H1 D o)) ∧ ∀ i m H, W i m H →
      (J.stop i H ∧ Qd H) ∨ (J.go i H ∧ ∃ Nx : Hp → Prop, (∀ H', Nx H' → ∃ m', m' < m ∧ W (i + 1) m' H') ∧ ∀ x H', J.yld i H x H' → g x (wipe σ vs) H' fun σ2 H2 => wipe σ2 vs = wipe σ vs ∧ tt σ2 H2 fun b H3 =>
        if b = true then tk σ2 H3 fun y H4 => tv σ2 H4 fun z H5 => ∃ H6, DPut H5 D y z H6 ∧ Nx H6 else Nx H3) := by
  refine ⟨fun i m H => i + m = n ∧ Pv i H, ⟨n, by omega, h0⟩, ?_⟩
  rintro i m H ⟨e, h⟩
  by_cases hi : i < n
  · exact .inr ⟨hgo i H hi h, fun H2 => Pv (i + 1) H2, fun H2 q => ⟨m - 1, by omega, by omega, q⟩, fun x H' y => hs i x H H' hi h y⟩
  · have e2 : i = n := by omega
    subst e2
    exact .inl ⟨hstop _ h, hd _ h⟩
end
def stsOf (n : Nat) (rs : List (List Nat)) : List Stg := (List.range n).flatMap fun q => rs.map fun r => (q, r)
theorem stsOf_succ (n : Nat) (rs : List (List Nat)) : stsOf (n + 1) rs = stsOf n rs ++ rs.map fun r => (n, r) := by
  unfold stsOf
  rw [List.range_succ, List.flatMap_append]
  simp
theorem stsOf_mem {n : Nat} {rs : List (List Nat)} {s : Stg} : s ∈ stsOf n rs ↔ (s.1 < n ∧ s.2 ∈ rs) := by
  unfold stsOf
  rw [List.mem_flatMap]
  constructor
  · rintro ⟨q, h1, h2⟩
    obtain ⟨r, h3, rfl⟩ := List.mem_map.mp h2
    exact ⟨List.mem_range.mp h1, h3⟩
  · rintro ⟨h1, h2⟩
    exact ⟨s.1, List.mem_range.mpr h1, List.mem_map.mpr ⟨s.2, h2, rfl⟩⟩
theorem stsOf_len (n : Nat) (rs : List (List Nat)) : (stsOf n rs).length = n * rs.length := by
  induction n with
  | zero => simp [stsOf]
  | succ n ih => rw [stsOf_succ, List.length_append, ih, List.length_map, Nat.succ_mul]
theorem stsOf_nd {n : Nat} {rs : List (List Nat)} (h : rs.Nodup) : (stsOf n rs).Nodup := by
  induction n with
  | zero => exact List.nodup_nil
  | succ n ih =>
    rw [stsOf_succ, List.nodup_append]
    refine ⟨ih, ?_, fun a ha b hb e => ?_⟩
    · rw [List.nodup_iff_pairwise_ne, List.pairwise_map]
      exact (List.nodup_iff_pairwise_ne.mp h).imp fun h z => h (congrArg Prod.snd z)
    · subst e
      obtain ⟨r, _, rfl⟩ := List.mem_map.mp hb
      have := (stsOf_mem.mp ha).1
      simp at this
theorem hkvs_put {sts : List Stg} (hn : sts.Nodup) {i : Nat} {s : Stg} (h : sts[i]? = some s) : putK (hkvs (sts.take i)) (kSt s) (.int (i : Int)) = hkvs (sts.take (i + 1)) := by
  have hil := (List.getElem?_eq_some_iff.mp h).1
  have hnot : valV (hkvs (sts.take i)) (kSt s) = none := by
    cases e : valV (hkvs (sts.take i)) (kSt s) with
    | none => rfl
    | some v =>
      have hk := valV_in e
      unfold hkvs at hk
      rw [List.map_map] at hk
      obtain ⟨⟨t, j⟩, h1, h2⟩ := List.mem_map.mp hk
      have h3 : kSt t = kSt s := h2
      have h4 := kSt_inj h3
      subst h4
      obtain ⟨k, h5, h6⟩ := List.mem_iff_getElem.mp h1
      rw [List.getElem_zipIdx] at h6
      injection h6 with h6 _
      have h7 : k < i := by
        rw [List.length_zipIdx, List.length_take] at h5; omega
      rw [List.getElem_take] at h6
      have := nd_ix hn (by rw [List.getElem?_eq_getElem (show k < sts.length by omega), h6]) h
      omega
  rw [putK_new _ hnot, List.take_add_one, h]
  unfold hkvs
  rw [List.zipIdx_append, List.map_append]
  congr 1
  show [_] = [_]
  rw [List.length_take, Nat.min_eq_left (by omega)]
  simp
theorem rkvs_put {ls : List Nat} {ps : List Addr} {c : Nat} {p : Addr} (hl : ls.length = ps.length) (h : c ∉ ls) : putK (rkvs ls ps) (kS [c]) (.ref p) = rkvs (ls ++ [c]) (ps ++ [p]) := by
  have hnot : valV (rkvs ls ps) (kS [c]) = none := by
    cases e : valV (rkvs ls ps) (kS [c]) with
    | none => rfl
    | some v =>
      have hk := valV_in e
      unfold rkvs at hk
      rw [List.map_map] at hk
      obtain ⟨⟨x, q⟩, h1, h2⟩ := List.mem_map.mp hk
      have h3 : kS [x] = kS [c] := h2
      have := kS_inj _ _ h3
      injection this with this _
      subst this
      exact absurd (List.of_mem_zip h1).1 h
  rw [putK_new _ hnot]
  unfold rkvs
  rw [List.zip_append hl, List.map_append]
  rfl
theorem Mats.keep {H0 H H' : Hp} {L : List MatD} (M : Mats H0 H L) {N : List Addr} (f : Fx N H H') (h : ∀ a ∈ adr L, a ∉ N) : Mats H0 H' L :=
  ⟨fun m hm => (M.mat m hm).keep f (h _ (mem_adr hm (.inl rfl))) (fun q hq => h _ (mem_adr hm (.inr hq))), M.nd⟩
theorem Mats.known {H0 H : Hp} {L : List MatD} (M : Mats H0 H L) {a : Addr} (h : a ∈ adr L) : ∃ ys, H a = some (.lst ys) := by
  obtain ⟨m, hm, ha⟩ := List.mem_flatMap.mp h
  rcases List.mem_cons.mp ha with rfl | ha
  · exact ⟨_, (M.mat m hm).at_⟩
  · obtain ⟨i, hi⟩ := List.mem_iff_getElem?.mp ha
    have hl : i < m.2.2.length := by rw [← (M.mat m hm).len]; exact (List.getElem?_eq_some_iff.mp hi).1
    obtain ⟨ys, h1, _⟩ := (M.mat m hm).row i a _ hi (List.getElem?_eq_getElem hl)
    exact ⟨ys, h1⟩
theorem Mat.old {α : Type} {r : Rp α} {H0 H1 H : Hp} {p : Addr} {qs : List Addr} {rows : List (List α)} (M : Mat r H1 H p qs rows) (e : Fe H0 H1) : Mat r H0 H p qs rows :=
  ⟨M.at_, M.nd, M.ne, fun q h => e.free (M.new q h), e.free M.newp, M.len, M.row⟩
/-- one more list of rows, all of it new -/
theorem Mats.more {H0 H1 H : Hp} {L : List MatD} (M : Mats H0 H1 L) (e : Fe H0 H1) (f : Fe H1 H) {p : Addr} {qs : List Addr} {rows : List Row} (N : Mat rMv H1 H p qs rows) : Mats H0 H (L ++ [(p, qs, rows)]) := by
  refine ⟨fun m hm => ?_, ?_⟩
  · rcases List.mem_append.mp hm with hm | hm
    · exact (M.mat m hm).fe f
    · rw [List.mem_singleton.mp hm]
      exact N.old e
  · unfold adr
    rw [List.flatMap_append, List.nodup_append]
    refine ⟨M.nd, ?_, fun a ha b hb e => ?_⟩
    · show ((p :: qs) ++ []).Nodup
      rw [List.append_nil, List.nodup_cons]
      exact ⟨N.ne, N.nd⟩
    · subst e
      obtain ⟨ys, hy⟩ := M.known ha
      have hb : a ∈ (p :: qs) ++ [] := hb
      rw [List.append_nil] at hb
      have : H1 a = none := by
        rcases List.mem_cons.mp hb with rfl | h
        · exact N.newp
        · exact N.new a h
      rw [this] at hy; cases hy
/-- a book and a machine as asked -/
structure POk (b : Book) (m : Mach) : Prop where
  bk : BOk b
  mo : MOk m
  few : m.1 ≤ 60
  ln : b.1.Nodup
  ms : ∀ s ∈ m.2.2, s.2.1 ∈ b.1
  e30 : RsB b
def spInit (C : Addr) : Sp := fun vs H Q _ => ∃ (H0 : Hp) (b : Book) (m : Mach) (sf dx : Addr) (vb vm : V), vs = [.ref sf, vb, vm] ∧ Fe H0 H ∧ H0 sf = none ∧ H sf = some (.ins C dx []) ∧ rBook H0 vb b ∧ rMach H0 vm m ∧ POk b m ∧
  ∀ (H' : Hp) (rs : List (List Nat)) (L : List MatD) (as : Addr) (xs : List V) (ah rd : Addr), PyProof.Rows.sortedS (rs.map sS) = true → SOk b m (stsOf m.1 rs) → (stsOf m.1 rs).length ≤ 4000 →
    WAt C H0 H' b m (stsOf m.1 rs) L sf dx vb vm as xs ah rd → Rows (stsOf m.1 rs).length (keysOf b) L (Told b m (stsOf m.1 rs)) → Q .non H'
theorem nodup_take_not {l : List Nat} (h : l.Nodup) {i c : Nat} (hi : l[i]? = some c) : c ∉ l.take i := by
  intro hm
  obtain ⟨k, h1, h2⟩ := List.mem_iff_getElem.mp hm
  rw [List.length_take] at h1
  rw [List.getElem_take] at h2
  have := nd_ix h (by rw [List.getElem?_eq_getElem (show k < l.length by omega), h2]) hi
  omega
section
variable {P : Program} {w : World} {K : PySem.W.Frag} {g : Str → Option Value} {base : Heap}
theorem ok_MoveWeb_init (T : Txt K g) : FnOk P w K g base CX0 5 T.d_MoveWeb_init.f T.d_MoveWeb_init.fd P_MoveWeb_init (spInit T.c_MoveWeb) := by
  refine T.d_MoveWeb_init.F.ok sc_MoveWeb_init (fun vs H Q E h => ?_) (fun cdv A outer s H vs Q E hr h => ?_)
  · obtain ⟨_, _, _, _, _, _, _, rfl, _⟩ := h
    rfl
  · obtain ⟨H0, b, m, sf, dx, vb, vm, rfl, e0, nsf, hins, hb, hm, ok, kk⟩ := h
    have hu := hu_of hr
    refine ⟨_, (pss_cons (ks_fld (K := K) rfl (pv 0) (pv 1) rfl)
    (pss_cons (ks_fld (K := K) rfl (pv 0) (pv 2) rfl)
    (pss_cons (ps_set (i := 3) sc_MoveWeb_init.nd rfl (by first | exact Or.inl rfl | exact Or.inr rfl) (pe_call (ok_rests_of T) (hr.mono (by decide)) rfl T.d_rests_of.mg T.d_rests_of.kp T.d_rests_of.b .nil pass0 (pa_cons (pv 1) pa_nil)))
    (pss_cons (ks_fld (K := K) rfl (pv 0) (pe_lc2 (own := [("state", 4), ("rest", 5)]) (vs1 := [5]) rfl sc_MoveWeb_init.nd (pi_range1 rfl T.z_range (pa_cons (pe_ix (kx_tup (K := K) rfl) (pv 2) pe_int (fun _ _ => rfl)) pa_nil)) (blkOk_by (N := N_MoveWeb_init) (sc := defScope s_MoveWeb_init) (by decide +kernel)) (by decide) (fun _ _ _ _ _ => by exact (pg_name (i := 4) sc_MoveWeb_init.nd rfl (by first | exact Or.inl rfl | exact Or.inr rfl))) (fun _ _ _ _ _ => by exact pts_nil) (fun _ _ _ _ _ => by exact (ki_list (K := K) rfl (pv 3))) (fun _ _ _ _ _ => by exact (pg_name (i := 5) sc_MoveWeb_init.nd rfl (by first | exact Or.inl rfl | exact Or.inr rfl))) (fun _ _ _ _ _ => by exact pts_nil) (fun _ _ _ _ _ => by exact (pe_tup (pa_cons (pv 4) (pa_cons (pv 5) pa_nil))))) rfl)
    (pss_cons (ks_fld (K := K) rfl (pv 0) (ke_dc (o := .dT []) (.inr rfl) hr.units0 (own := [("home", 6), ("standing", 7)]) rfl sc_MoveWeb_init.nd (ki_enum (K := K) rfl rfl T.z_enumerate (pa_cons (ke_fld (K := K) rfl (pv 0) rfl) pa_nil)) (blkOk_by (N := N_MoveWeb_init) (sc := defScope s_MoveWeb_init) (by decide +kernel)) (fun _ _ _ _ _ => by exact (kg_tup (K := K) 2 rfl rfl (pgs_cons (pg_name (i := 6) sc_MoveWeb_init.nd rfl (by first | exact Or.inl rfl | exact Or.inr rfl)) (pgs_cons (pg_name (i := 7) sc_MoveWeb_init.nd rfl (by first | exact Or.inl rfl | exact Or.inr rfl)) pgs_nil)))) (fun _ _ _ _ _ => by exact pts_nil) (fun _ _ _ _ _ => by exact (pv 7)) (fun _ _ _ _ _ => by exact (pv 6))) rfl)
    (pss_cons (ks_fld (K := K) rfl (pv 0) (pe_lc (own := [("_", 8)]) rfl sc_MoveWeb_init.nd (ki_list (K := K) rfl (ke_fld (K := K) rfl (pv 0) rfl)) (blkOk_by (N := N_MoveWeb_init) (sc := defScope s_MoveWeb_init) (by decide +kernel)) (fun _ _ _ _ _ => by exact (pg_name (i := 8) sc_MoveWeb_init.nd rfl (by first | exact Or.inl rfl | exact Or.inr rfl))) (fun _ _ _ _ _ => by exact pts_nil) (fun _ _ _ _ _ => by exact (pe_lst pa_nil))) rfl)
    (pss_cons (ks_fld (K := K) rfl (pv 0) (ke_dc (o := .dK []) (.inl rfl) hr.units0 (own := [("letter", 9)]) rfl sc_MoveWeb_init.nd (pi_str (pe_ix (kx_tup (K := K) rfl) (pv 1) pe_int (fun _ _ => rfl))) (blkOk_by (N := N_MoveWeb_init) (sc := defScope s_MoveWeb_init) (by decide +kernel)) (fun _ _ _ _ _ => by exact (pg_name (i := 9) sc_MoveWeb_init.nd rfl (by first | exact Or.inl rfl | exact Or.inr rfl))) (fun _ _ _ _ _ => by exact pts_nil) (fun _ _ _ _ _ => by exact (pv 9)) (fun _ _ _ _ _ => by exact (pe_lc (own := [("_", 8)]) rfl sc_MoveWeb_init.nd (ki_list (K := K) rfl (ke_fld (K := K) rfl (pv 0) rfl)) (by exact blkOk_by (N := N_MoveWeb_init) (by kernel_rfl)) (fun _ _ _ _ _ => by exact (pg_name (i := 8) sc_MoveWeb_init.nd rfl (by first | exact Or.inl rfl | exact Or.inr rfl))) (fun _ _ _ _ _ => by exact pts_nil) (fun _ _ _ _ _ => by exact (pe_lst pa_nil))))) rfl)
    (pss_one (ps_expr (pe_meth (pv 0) T.cl_MoveWeb T.d_MoveWeb_put_moves.m (ok_MoveWeb_put_moves T) (hr.mono (by decide)) T.d_MoveWeb_put_moves.b .nil pass0 (pa_cons (pe_call (ok_steps_by_state T) (hr.mono (by decide)) rfl T.d_steps_by_state.mg T.d_steps_by_state.kp T.d_steps_by_state.b .nil pass0 (pa_cons (pv 2) pa_nil)) pa_nil))))))))))), ?_⟩
    have cl := T.cl_MoveWeb
    -- self.book = book; self.machine = machine
    refine ⟨_, rfl, _, rfl, sf, _, dx, [], rfl, hins, cl, T.na_MoveWeb_book, by show 0 < 1000; decide, ?_⟩
    have e1 := e0.mut (o := .ins T.c_MoveWeb dx (putF nb vb [])) nsf
    refine ⟨_, rfl, _, rfl, sf, _, dx, _, rfl, upd_same, cl, T.na_MoveWeb_machine, by show 1 < 1000; decide, ?_⟩
    have e2 := e1.mut (o := .ins T.c_MoveWeb dx (putF nm vm (putF nb vb []))) nsf
    have i2 : upd (upd H sf (.ins T.c_MoveWeb dx (putF nb vb []))) sf (.ins T.c_MoveWeb dx (putF nm vm (putF nb vb []))) sf = some (.ins T.c_MoveWeb dx (putF nm vm (putF nb vb []))) := upd_same
    generalize upd (upd H sf (.ins T.c_MoveWeb dx (putF nb vb []))) sf (.ins T.c_MoveWeb dx (putF nm vm (putF nb vb []))) = H2 at e2 i2
    -- rests
    refine ⟨_, rfl, b, vb, rfl, Me.go hb e2, ok.bk, ok.e30, fun vr H3 rs e3 hrs hrn hrsort hrm hrl => ?_⟩
    have e03 := e2.trans e3
    have i3 := e3.k i2
    obtain ⟨ar, rxs, rfl, har, hrx⟩ := id hrs
    have hm3 := Me.go hm e03
    obtain ⟨am, x0, y0, z0, rfl, ham, rfl, _, _⟩ := id hm3
    have hrl61 : rs.length ≤ 61 := hrl
    have hfew := ok.few
    -- self.standings
    refine ⟨_, rfl, am, _, _, _, rfl, rfl, SqT.of ham, rfl, _, rfl, by omega, by omega, fun D hD => ⟨fun i k H' => i + k = m.1 ∧ Cmp (rP rN rS) H3 D (stsOf i rs) H', ⟨m.1, by omega, Cmp.start hD⟩, ?_⟩⟩
    rintro i k H' ⟨hik, c⟩
    by_cases hi : i < m.1
    · refine .inr ⟨by show i < (m.1 : Int).toNat; omega, fun H' => Cmp (rP rN rS) H3 D (stsOf (i + 1) rs) H', fun H' c' => ⟨k - 1, by omega, by omega, c'⟩, ?_⟩
      rintro x H4 ⟨rfl, rfl⟩
      refine ⟨rfl, ?_⟩
      refine ⟨_, rfl, ar, rfl, ⟨_, SqL.of (c.fe.k har)⟩, fun j k H' => j + k = rs.length ∧ Cmp (rP rN rS) H3 D (stsOf i rs ++ (rs.take j).map fun r => (i, r)) H', ⟨rs.length, by omega, by simpa using c⟩, ?_⟩
      rintro j k' H5 ⟨hjk, c5⟩
      by_cases hj : j < rs.length
      · have hrj : rs[j]? = some rs[j] := List.getElem?_eq_getElem hj
        obtain ⟨xv, hxv, hxr⟩ := hrx.at hrj
        refine .inr ⟨⟨rxs, xv, SqL.of (c5.fe.k har), hxv⟩, fun H' => Cmp (rP rN rS) H3 D (stsOf i rs ++ (rs.take (j + 1)).map fun r => (i, r)) H', fun H' c' => ⟨k' - 1, by omega, by omega, c'⟩, ?_⟩
        rintro x H6 ⟨rfl, hxe⟩
        have hx2 := hxe rxs (SqL.of (c5.fe.k har))
        rw [hxv] at hx2; cases hx2
        cases hxr
        refine ⟨rfl, ?_⟩
        refine ⟨_, rfl, _, rfl, by show 2 ≤ sizeLine; decide, fun U hU => ?_⟩
        have fU := Fe.new (o := .tup [.int (0 + (i : Int)), .str ⟨(rs[j]).toArray⟩]) hU
        have hz : (rs.take (j + 1)).map (fun r => (i, r)) = (rs.take j).map (fun r => (i, r)) ++ [(i, rs[j])] := by
          rw [List.take_add_one, hrj, List.map_append]; rfl
        rw [hz, ← List.append_assoc]
        refine c5.add ?_ fU ⟨U, _, _, rfl, upd_same, by rw [Int.zero_add]; rfl, rfl⟩
        rw [List.length_append, stsOf_len, List.length_map, List.length_take]
        have : i * rs.length ≤ 60 * 61 := Nat.mul_le_mul (by omega) hrl61
        omega
      · have e : j = rs.length := by omega
        subst e
        refine .inl ⟨⟨rxs, SqL.of (c5.fe.k har), by rw [hrx.len]; exact Nat.le_refl _⟩, ?_⟩
        rw [List.take_length] at c5
        show Cmp (rP rN rS) H3 D (stsOf (i + 1) rs) H5
        rw [stsOf_succ]
        exact c5
    · have e : i = m.1 := by omega
      subst e
      refine .inl ⟨by show (m.1 : Int).toNat ≤ m.1; omega, ?_⟩
      clear hi hik
      -- the standings stand at D
      obtain ⟨_, eD, xs, hDx, hxs⟩ := c
      generalize hsts : stsOf m.1 rs = sts at hxs
      have hstl : sts.length ≤ 4000 := by
        rw [← hsts, stsOf_len]
        have : m.1 * rs.length ≤ 60 * 61 := Nat.mul_le_mul hfew hrl61
        omega
      have so : SOk b m sts := by
        subst hsts
        exact ⟨ok.bk, ok.mo, ok.few, ok.ln, ok.ms, stsOf_nd hrn, fun s => by rw [stsOf_mem, hrm]⟩
      have e04 := e03.trans eD
      have i4 := eD.k i3
      refine ⟨_, rfl, sf, _, dx, _, rfl, i4, cl, T.na_MoveWeb_standings, ?_, ?_⟩
      · have h1 := length_putF nm (V.ref am) (putF nb vb [])
        have h2 := length_putF nb vb []
        rw [List.length_nil] at h2; omega
      have nDs : D ≠ sf := ne_of hDx i4 (fun z => nomatch z)
      have e5 := e04.mut (o := .ins T.c_MoveWeb dx (putF ns (.ref D) (putF nm (.ref am) (putF nb vb [])))) nsf
      have i5 : upd H' sf (.ins T.c_MoveWeb dx (putF ns (.ref D) (putF nm (.ref am) (putF nb vb [])))) sf = some (.ins T.c_MoveWeb dx (putF ns (.ref D) (putF nm (.ref am) (putF nb vb [])))) := upd_same
      have D5 : upd H' sf (.ins T.c_MoveWeb dx (putF ns (.ref D) (putF nm (.ref am) (putF nb vb [])))) D = some (.lst xs) := by rw [upd_ne nDs]; exact hDx
      have fx5 : Fx [sf] H' (upd H' sf (.ins T.c_MoveWeb dx (putF ns (.ref D) (putF nm (.ref am) (putF nb vb []))))) := Fx.put i4 (List.mem_singleton.mpr rfl) (fun _ z => nomatch z)
      have x5 := Al.mo fx5 hxs
      generalize upd H' sf (.ins T.c_MoveWeb dx (putF ns (.ref D) (putF nm (.ref am) (putF nb vb [])))) = H5 at e5 i5 D5 x5
      clear fx5 i4 hxs hDx
      have lks : ∀ v, (putF ns v (putF nm (.ref am) (putF nb vb []))).lookup ns = some v := fun v => by rw [lookup_putF, if_pos rfl]
      -- self.homes
      refine ⟨_, rfl, sf, _, dx, _, _, rfl, i5, cl, T.na_MoveWeb_standings, lks _, D, xs, rfl, SqL.of D5, fun Dh hDh => dc_by xs.length (fun i H' => H5 Dh = none ∧ Fe H5 H' ∧ H' Dh = some (.dT (hkvs (sts.take i)))) ⟨hDh, Fe.new hDh, upd_same⟩
        (fun i H' hi c => enum_go (c.2.1.k D5) hi) (fun H' c => enum_stop (c.2.1.k D5) (Nat.le_refl _)) ?_ ?_⟩
      · rintro i x H6 H7 hi ⟨c1, c2, c3⟩ hy
        obtain ⟨U, x, rfl, hU, rfl, hx⟩ := enum_yld (c2.k D5) hy
        obtain ⟨st, hst, hxr⟩ := x5.get hx
        obtain ⟨u, q1, q2, rfl, hu2, rfl, rfl⟩ := id hxr
        have fU := Fe.new (o := .tup [.int (i : Int), .ref u]) hU
        refine ⟨U, _, rfl, SqT.of upd_same, rfl, _, _, rfl, _, _, rfl, rfl, rfl, ?_⟩
        refine ⟨_, rfl, _, rfl, _, DPut.t (k := kSt st) (fU.k c3) (fU.k (c2.k hu2)) ?_, c1, (c2.trans fU).mut c1, ?_⟩
        · unfold hkvs
          rw [List.length_map, List.length_zipIdx, List.length_take, sizeLine_eq]; omega
        · rw [upd_same, hkvs_put so.nd hst]
      · rintro H6 ⟨_, e6, hh6⟩
        rw [x5.len, List.take_length] at hh6
        have e06 := e5.trans e6
        have i6 := e6.k i5
        refine ⟨_, rfl, sf, _, dx, _, rfl, i6, cl, T.na_MoveWeb_homes, ?_, ?_⟩
        · have h1 := length_putF nm (V.ref am) (putF nb vb [])
          have h2 := length_putF nb vb []
          have h3 := length_putF ns (V.ref D) (putF nm (V.ref am) (putF nb vb []))
          rw [List.length_nil] at h2; omega
        have e7 := e06.mut (o := .ins T.c_MoveWeb dx (putF nh (.ref Dh) (putF ns (.ref D) (putF nm (.ref am) (putF nb vb []))))) nsf
        have fx7 : Fx [sf] H6 (upd H6 sf (.ins T.c_MoveWeb dx (putF nh (.ref Dh) (putF ns (.ref D) (putF nm (.ref am) (putF nb vb [])))))) := Fx.put i6 (List.mem_singleton.mpr rfl) (fun _ z => nomatch z)
        have i7 : upd H6 sf (.ins T.c_MoveWeb dx (putF nh (.ref Dh) (putF ns (.ref D) (putF nm (.ref am) (putF nb vb []))))) sf = some (.ins T.c_MoveWeb dx (putF nh (.ref Dh) (putF ns (.ref D) (putF nm (.ref am) (putF nb vb []))))) := upd_same
        have D7 := fx7.keep D _ (fun z => nDs (List.mem_singleton.mp z)) (e6.k D5)
        have h7 := fx7.keep Dh _ (fun z => ne_of hh6 i6 (fun z => nomatch z) (List.mem_singleton.mp z)) hh6
        have x7 := Al.mo fx7 (Al.mo e6 x5)
        generalize upd H6 sf (.ins T.c_MoveWeb dx (putF nh (.ref Dh) (putF ns (.ref D) (putF nm (.ref am) (putF nb vb []))))) = H7 at e7 i7 D7 h7 x7
        clear fx7 i6 x5
        have lks7 : (putF nh (.ref Dh) (putF ns (.ref D) (putF nm (.ref am) (putF nb vb [])))).lookup ns = some (.ref D) := by
          rw [lookup_putF, if_neg w_sh, lookup_putF, if_pos rfl]
        -- self.silent
        refine ⟨_, rfl, sf, _, dx, _, _, rfl, i7, cl, T.na_MoveWeb_standings, lks7, D, rfl, ⟨_, SqL.of D7⟩, fun p0 hp0 => lc_list (K := K) (a := D) (xs := xs) (MatC H7 p0) (MatC.start hp0) (fun i H' _ mc => SqL.of (mc.2.1.k D7)) ?_ ?_⟩
        · intro i x H' hx mc
          exact ⟨rfl, mc.go (by have := (List.getElem?_eq_some_iff.mp hx).1; rw [x7.len] at this; omega)⟩
        · intro H8 mc
          have e8 := mc.2.1
          have e08 := e7.trans e8
          obtain ⟨qs0, M0⟩ := mc.mat (r := rMv) e7
          have i8 := e8.k i7
          refine ⟨_, rfl, sf, _, dx, _, rfl, i8, cl, T.na_MoveWeb_silent, ?_, ?_⟩
          · have h1 := length_putF nm (V.ref am) (putF nb vb [])
            have h2 := length_putF nb vb []
            have h3 := length_putF ns (V.ref D) (putF nm (V.ref am) (putF nb vb []))
            have h4 := length_putF nh (V.ref Dh) (putF ns (V.ref D) (putF nm (V.ref am) (putF nb vb [])))
            rw [List.length_nil] at h2; omega
          have e9 := e08.mut (o := .ins T.c_MoveWeb dx (putF nl (.ref p0) (putF nh (.ref Dh) (putF ns (.ref D) (putF nm (.ref am) (putF nb vb [])))))) nsf
          have fx9 : Fx [sf] H8 (upd H8 sf (.ins T.c_MoveWeb dx (putF nl (.ref p0) (putF nh (.ref Dh) (putF ns (.ref D) (putF nm (.ref am) (putF nb vb []))))))) := Fx.put i8 (List.mem_singleton.mpr rfl) (fun _ z => nomatch z)
          have i9 : upd H8 sf (.ins T.c_MoveWeb dx (putF nl (.ref p0) (putF nh (.ref Dh) (putF ns (.ref D) (putF nm (.ref am) (putF nb vb [])))))) sf = some (.ins T.c_MoveWeb dx (putF nl (.ref p0) (putF nh (.ref Dh) (putF ns (.ref D) (putF nm (.ref am) (putF nb vb [])))))) := upd_same
          have D9 := fx9.keep D _ (fun z => nDs (List.mem_singleton.mp z)) (e8.k D7)
          have h9 := fx9.keep Dh _ (fun z => ne_of (e8.k h7) i8 (fun z => nomatch z) (List.mem_singleton.mp z)) (e8.k h7)
          have x9 := Al.mo fx9 (Al.mo e8 x7)
          have Ms8 : Mats H0 H8 [(p0, qs0, List.replicate xs.length [])] := ⟨fun m hm => by rw [List.mem_singleton.mp hm]; exact M0, by
            show ((p0 :: qs0) ++ []).Nodup
            rw [List.append_nil, List.nodup_cons]; exact ⟨M0.ne, M0.nd⟩⟩
          have nsfL : sf ∉ adr [(p0, qs0, List.replicate xs.length ([] : Row))] := fun z => by
            obtain ⟨ys, hy⟩ := Ms8.known z
            rw [i8] at hy; cases hy
          have Ms9 := Ms8.keep fx9 (fun a ha z => nsfL (List.mem_singleton.mp z ▸ ha))
          have nD9 : D ∉ adr [(p0, qs0, List.replicate xs.length ([] : Row))] := fun z => by
            have h1 : H7 D = none := by
              have z : D ∈ (p0 :: qs0) ++ [] := z
              rw [List.append_nil] at z
              rcases List.mem_cons.mp z with rfl | z
              · exact hp0
              · obtain ⟨_, _, qs1, hl1, hD1, hn1, hne1, hq1⟩ := mc
                have h2 : qs0 = qs1 := by
                  have := M0.at_
                  rw [hD1] at this
                  have := HO.lst.inj (Option.some.inj this)
                  exact ((List.map_inj_right (fun a b e => V.ref.inj e)).mp this).symm
                exact (hq1 D (h2 ▸ z)).1
            rw [D7] at h1; cases h1
          generalize upd H8 sf (.ins T.c_MoveWeb dx (putF nl (.ref p0) (putF nh (.ref Dh) (putF ns (.ref D) (putF nm (.ref am) (putF nb vb [])))))) = H9 at e9 i9 D9 h9 x9 Ms9
          clear fx9 i8 x7 Ms8 nsfL
          have lks9 : (putF nl (.ref p0) (putF nh (.ref Dh) (putF ns (.ref D) (putF nm (.ref am) (putF nb vb []))))).lookup ns = some (.ref D) := by
            rw [lookup_putF, if_neg w_sl, lookup_putF, if_neg w_sh, lookup_putF, if_pos rfl]
          obtain ⟨ab, bl, be, rfl, hab, rfl, _⟩ := id (Me.go hb e9)
          -- self.reading
          refine ⟨_, rfl, ab, _, _, _, rfl, rfl, SqT.of hab, rfl, _, rfl, fun Dr hDr => dc_by b.1.length (fun i H' => ∃ Ls : List MatD, Ls.length = i ∧ H9 Dr = none ∧ Fe H9 H' ∧ H' Dr = some (.dK (rkvs (b.1.take i) (Ls.map (·.1)))) ∧
            Mats H0 H' ((p0, qs0, List.replicate xs.length []) :: Ls) ∧ (∀ m ∈ Ls, m.2.2 = List.replicate xs.length []) ∧ D ∉ adr ((p0, qs0, List.replicate xs.length []) :: Ls))
            ⟨[], rfl, hDr, Fe.new hDr, upd_same, Ms9.fe (Fe.new hDr), fun m h => (nomatch h), nD9⟩ (fun i H' hi _ => by show i < b.1.toArray.size; rw [List.size_toArray]; exact hi) (fun H' _ => by show b.1.toArray.size ≤ _; rw [List.size_toArray]; exact Nat.le_refl _) ?_ ?_⟩
          · rintro i x H10 H11 hi ⟨Ls, hl, c1, c2, c3, c4, c5, c6⟩ ⟨rfl, ch, hch, rfl⟩
            have hch : b.1[i]? = some ch := by
              have hch : b.1.toArray[i]? = some ch := hch
              rw [List.getElem?_toArray] at hch
              exact hch
            refine ⟨rfl, ?_⟩
            refine ⟨_, rfl, _, rfl, sf, _, dx, _, _, rfl, c2.k i9, cl, T.na_MoveWeb_standings, lks9, D, rfl, ⟨_, SqL.of (c2.k D9)⟩, fun p1 hp1 => lc_list (K := K) (a := D) (xs := xs) (MatC H11 p1) (MatC.start hp1) (fun i H' _ mc => SqL.of (mc.2.1.k (c2.k D9))) ?_ ?_⟩
            · intro i x H' hx mc
              exact ⟨rfl, mc.go (by have := (List.getElem?_eq_some_iff.mp hx).1; rw [x9.len] at this; omega)⟩
            · intro H12 mc1
              obtain ⟨qs1, M1⟩ := mc1.mat (r := rMv) (Fx.refl [] H11)
              have e12 := mc1.2.1
              have Ms12 := c4.more (e9.trans c2) e12 M1
              have n12 : Dr ∉ adr ((p0, qs0, List.replicate xs.length []) :: Ls ++ [(p1, qs1, List.replicate xs.length [])]) := fun z => by
                obtain ⟨ys, hy⟩ := Ms12.known z
                rw [e12.k c3] at hy; cases hy
              refine ⟨_, DPut.k (k := kS [ch]) (e12.k c3) ?_, Ls ++ [(p1, qs1, List.replicate xs.length [])], by rw [List.length_append, hl]; rfl, c1, (c2.trans e12).mut c1, ?_, ?_, ?_, ?_⟩
              · unfold rkvs
                rw [List.length_map, List.length_zip, List.length_take, sizeLine_eq]
                have := ok.bk.fewL; omega
              · rw [upd_same, rkvs_put (by rw [List.length_take, List.length_map]; omega) (nodup_take_not ok.ln hch), List.take_add_one, hch, List.map_append]
                rfl
              · exact Ms12.keep (Fx.put (e12.k c3) (List.mem_singleton.mpr rfl) (fun _ z => nomatch z)) (fun a ha z => n12 (List.mem_singleton.mp z ▸ ha))
              · intro m hm
                rcases List.mem_append.mp hm with hm | hm
                · exact c5 m hm
                · rw [List.mem_singleton.mp hm]
              · intro z
                have z : D ∈ adr (((p0, qs0, List.replicate xs.length []) :: Ls) ++ [(p1, qs1, List.replicate xs.length [])]) := z
                unfold adr at z
                rw [List.flatMap_append] at z
                rcases List.mem_append.mp z with z | z
                · exact c6 z
                · have z : D ∈ (p1 :: qs1) ++ [] := z
                  rw [List.append_nil] at z
                  have h1 : H11 D = none := by
                    rcases List.mem_cons.mp z with rfl | z
                    · exact hp1
                    · exact M1.new D z
                  rw [c2.k D9] at h1; cases h1
          · rintro H10 ⟨Ls, hl, c1, c2, c3, c4, c5, c6⟩
            rw [List.take_length] at c3
            have i10 := c2.k i9
            have e10 := e9.trans c2
            refine ⟨_, rfl, sf, _, dx, _, rfl, i10, cl, T.na_MoveWeb_reading, ?_, ?_⟩
            · have h1 := length_putF nm (V.ref am) (putF nb (V.ref ab) [])
              have h2 := length_putF nb (V.ref ab) []
              have h3 := length_putF ns (V.ref D) (putF nm (V.ref am) (putF nb (V.ref ab) []))
              have h4 := length_putF nh (V.ref Dh) (putF ns (V.ref D) (putF nm (V.ref am) (putF nb (V.ref ab) [])))
              have h5 := length_putF nl (V.ref p0) (putF nh (V.ref Dh) (putF ns (V.ref D) (putF nm (V.ref am) (putF nb (V.ref ab) []))))
              rw [List.length_nil] at h2; omega
            have e11 := e10.mut (o := .ins T.c_MoveWeb dx (wfl (.ref ab) (.ref am) (.ref D) (.ref Dh) (.ref p0) (.ref Dr))) nsf
            have fx : Fx [sf] H10 (upd H10 sf (.ins T.c_MoveWeb dx (wfl (.ref ab) (.ref am) (.ref D) (.ref Dh) (.ref p0) (.ref Dr)))) := Fx.put i10 (List.mem_singleton.mpr rfl) (fun _ z => nomatch z)
            have ap : ∀ a o, H10 a = some o → (∀ fs, o ≠ .ins T.c_MoveWeb dx fs) → upd H10 sf (.ins T.c_MoveWeb dx (wfl (.ref ab) (.ref am) (.ref D) (.ref Dh) (.ref p0) (.ref Dr))) a = some o := fun a o h n =>
              fx.keep a o (fun z => by rw [List.mem_singleton.mp z, i10] at h; exact n _ (Option.some.inj h).symm) h
            have Wt : WAt T.c_MoveWeb H0 (upd H10 sf (.ins T.c_MoveWeb dx (wfl (.ref ab) (.ref am) (.ref D) (.ref Dh) (.ref p0) (.ref Dr)))) b m sts ((p0, qs0, List.replicate xs.length []) :: Ls) sf dx (.ref ab) (.ref am) D xs Dh Dr :=
              ⟨e11, ⟨p0, rfl, upd_same⟩, Me.go hb e11, Me.go hm e11, ap _ _ (c2.k D9) (fun _ z => nomatch z), Al.mo fx (Al.mo c2 x9), ap _ _ (c2.k h9) (fun _ z => nomatch z), ap _ _ c3 (fun _ z => nomatch z),
                c4.keep fx (fun a ha z => by
                  obtain ⟨ys, hy⟩ := c4.known ha
                  rw [List.mem_singleton.mp z, i10] at hy; cases hy), c6⟩
            have i11 : upd H10 sf (.ins T.c_MoveWeb dx (wfl (.ref ab) (.ref am) (.ref D) (.ref Dh) (.ref p0) (.ref Dr))) sf = some (.ins T.c_MoveWeb dx (wfl (.ref ab) (.ref am) (.ref D) (.ref Dh) (.ref p0) (.ref Dr))) := upd_same
            -- self.put_moves(steps_by_state(machine))
            refine ⟨_, rfl, sf, dx, _, rfl, i11, wfl_no (by decide +kernel) (by decide +kernel) (by decide +kernel) (by decide +kernel) (by decide +kernel) (by decide +kernel), _, rfl, m, .ref am, rfl, Wt.hm, ok.mo, fun pr H12 rqs e12 Mr => ?_⟩
            have allrows : ∀ d ∈ ((p0, qs0, List.replicate xs.length ([] : Row)) :: Ls : List MatD), d.2.2 = List.replicate sts.length [] := fun d hd => by
              rw [← x9.len]
              rcases List.mem_cons.mp hd with rfl | hd
              · rfl
              · exact c5 d hd
            refine ⟨H0, _, b, m, sts, _, sf, dx, .ref ab, .ref am, D, xs, Dh, Dr, pr, rqs, rfl, ⟨Wt.f e12, ⟨?_, ?_, ?_⟩, ?_, Mr, ?_⟩, so, by omega, fun H' L' W' R' => ?_⟩
            · show Ls.length + 1 = (b.1.map some).length + 1
              rw [hl, List.length_map]
            · intro d hd
              rw [allrows d hd, List.length_replicate]
            · intro j k d h to c _ hd
              rw [allrows d (List.mem_of_getElem? hd)]
              constructor
              · rintro ⟨row, h1, h2⟩
                rw [List.getElem?_replicate] at h1
                split at h1
                · cases h1; cases h2
                · cases h1
              · exact fun z => z.2.elim
            · intro d hd row hr
              rw [allrows d hd, List.getElem?_replicate] at hr
              split at hr
              · cases hr; exact Nat.le_refl _
              · cases hr
            · intro a ha z
              obtain ⟨ys, hy⟩ := Wt.mats.known ha
              have q : some (HO.lst ys) = none := hy.symm.trans z
              cases q
            · subst hsts
              exact kk H' rs L' D xs Dh Dr hrsort so hstl W' R'
end
end Fm
namespace Fm
open PySem L2
/-- book, machine, standings as the web makes them -/
structure Std (b : Book) (m : Mach) (sts : List Stg) : Prop where
  ok : SOk b m sts
  few : sts.length ≤ 4000
  how : ∃ rs, sts = stsOf m.1 rs ∧ PyProof.Rows.sortedS (rs.map sS) = true
/-- a finished web at sf -/
def Wb (C : Addr) (b : Book) (m : Mach) (sts : List Stg) (H : Hp) (sf : Addr) : Prop :=
  ∃ (H0 : Hp) (L : List MatD) (dx : Addr) (vb vm : V) (as : Addr) (xs : List V) (ah rd : Addr), WAt C H0 H b m sts L sf dx vb vm as xs ah rd ∧ Rows sts.length (keysOf b) L (Told b m sts)
theorem Wb.f {C : Addr} {b : Book} {m : Mach} {sts : List Stg} {H H' : Hp} {sf : Addr} (w : Wb C b m sts H sf) (f : Fe H H') : Wb C b m sts H' sf := by
  obtain ⟨H0, L, dx, vb, vm, as, xs, ah, rd, W, R⟩ := w
  exact ⟨H0, L, dx, vb, vm, as, xs, ah, rd, W.f f, R⟩
theorem Wb.ins {C : Addr} {b : Book} {m : Mach} {sts : List Stg} {H : Hp} {sf : Addr} (w : Wb C b m sts H sf) : ∃ dx vb vm as ah p0 rd xs, H sf = some (.ins C dx (wfl vb vm (.ref as) (.ref ah) (.ref p0) (.ref rd))) ∧ H as = some (.lst xs) ∧ Al (rP rN rS) H xs sts := by
  obtain ⟨H0, L, dx, vb, vm, as, xs, ah, rd, W, R⟩ := w
  obtain ⟨p0, _, h⟩ := W.ins
  exact ⟨dx, vb, vm, as, ah, p0, rd, xs, h, W.hs, W.hx⟩
theorem Rows.here {H0 H : Hp} {n : Nat} {ks : List (Option Nat)} {L : List MatD} {S : Option Nat → Nat → Nat → Nat → Prop} (R : Rows n ks L S) (M : Mats H0 H L) {j h : Nat} {k : Option Nat} (hk : ks[j]? = some k) (hh : h < n) :
    ∃ d q ys row, L[j]? = some d ∧ H d.1 = some (.lst (d.2.1.map V.ref)) ∧ d.2.1[h]? = some q ∧ H q = some (.lst ys) ∧ Al rMv H ys row ∧ ∀ to c, (to, c, ()) ∈ row ↔ S k h to c := by
  have hj : j < L.length := by rw [R.len]; exact (List.getElem?_eq_some_iff.mp hk).1
  have hd : L[j]? = some L[j] := List.getElem?_eq_getElem hj
  have hm := List.mem_of_getElem? hd
  have hh' : h < (L[j]).2.2.length := by rw [R.rl _ hm]; exact hh
  have hr : (L[j]).2.2[h]? = some ((L[j]).2.2[h]'hh') := List.getElem?_eq_getElem hh'
  obtain ⟨q, ys, h1, _, h2, h3⟩ := (M.mat _ hm).get hr
  refine ⟨L[j], q, ys, _, hd, (M.mat _ hm).at_, h1, h2, h3, fun to c => ?_⟩
  have := R.ed j k _ h to c hk hd
  constructor
  · intro z; exact (this.mp ⟨_, hr, z⟩).2
  · intro z
    obtain ⟨row, h4, h5⟩ := this.mpr ⟨hh, z⟩
    rw [hr] at h4; cases h4
    exact h5
theorem told_lt {b : Book} {m : Mach} {sts : List Stg} {k : Option Nat} {h to c : Nat} (t : Told b m sts k h to c) : h < sts.length ∧ to < sts.length := by
  obtain ⟨s, s', h1, h2, _⟩ := t
  exact ⟨(List.getElem?_eq_some_iff.mp h1).1, (List.getElem?_eq_some_iff.mp h2).1⟩
/-- costs of moves are costs of the book, or 0 -/
theorem told_cost {b : Book} {m : Mach} {sts : List Stg} {k : Option Nat} {h to c : Nat} (t : Told b m sts k h to c) : c = 0 ∨ c ∈ b.2.map fun e => e.2.2 := by
  obtain ⟨s, s', _, _, h3⟩ := t
  cases k with
  | none =>
    obtain ⟨_, _, wr, h4, _⟩ := h3
    exact .inr (List.mem_map.mpr ⟨_, h4, rfl⟩)
  | some x =>
    rcases h3 with ⟨_, _, _, h4⟩ | ⟨_, _, _, h4⟩ | ⟨_, rd, wr, h4, _⟩
    · exact .inl h4
    · exact .inl h4
    · exact .inr (List.mem_map.mpr ⟨_, h4, rfl⟩)
abbrev vN (n : Nat) : V := .int (n : Int)
theorem inV_nats (x : Nat) (l : List Nat) : inV (vN x) (l.map vN) = decide (x ∈ l) := by
  unfold inV
  rw [Bool.eq_iff_iff, List.any_eq_true, decide_eq_true_eq]
  constructor
  · rintro ⟨y, hy, e⟩
    obtain ⟨z, hz, rfl⟩ := List.mem_map.mp hy
    have e' : ((z : Int) == (x : Int)) = true := e
    have := eq_of_beq e'
    have : z = x := by omega
    exact this ▸ hz
  · intro h
    exact ⟨_, List.mem_map.mpr ⟨x, h, rfl⟩, by show ((x : Int) == (x : Int)) = true; exact beq_self_eq_true _⟩
theorem flat_nats (l : List Nat) : (l.map vN).all flatV = true := by
  rw [List.all_eq_true]
  intro v hv
  obtain ⟨z, _, rfl⟩ := List.mem_map.mp hv
  rfl
def fr (told : CRow) (i : Nat) : List Nat := (List.range i).filter fun h => (told[h]?.getD none).isSome
theorem fr_succ (told : CRow) (i : Nat) : fr told (i + 1) = fr told i ++ (if (told[i]?.getD none).isSome then [i] else []) := by
  unfold fr
  rw [List.range_succ, List.filter_append]
  refine congrArg (fun z => List.filter _ (List.range i) ++ z) ?_
  rw [List.filter_cons]
  split <;> rfl
theorem fr_mem {told : CRow} {i h : Nat} : h ∈ fr told i ↔ h < i ∧ ∃ c, told[h]? = some (some c) := by
  unfold fr
  rw [List.mem_filter, List.mem_range]
  refine and_congr_right fun _ => ?_
  cases e : told[h]? with
  | none => simp
  | some o => cases o <;> simp
theorem fr_len (told : CRow) (i : Nat) : (fr told i).length ≤ i := by
  unfold fr
  exact Nat.le_trans (List.length_filter_le _ _) (by rw [List.length_range]; exact Nat.le_refl _)
def Rxs (S : Nat → Nat → Nat → Prop) (told : CRow) (X : Nat → Prop) : Prop := ∀ h to d, ¬ X h → S h to d → Rx told h to d
theorem at_oV {l : CRow} {i : Nat} {o : Option Nat} (h : l[i]? = some o) : (l.map oV)[i]? = some (oV o) := by rw [List.getElem?_map, h]; rfl
theorem set_oV (l : CRow) (i v : Nat) : (l.map oV).set i (vN v) = (l.set i (some v)).map oV := by rw [List.map_set]; rfl
def spClosed (C : Addr) : Sp := fun vs H Q _ => ∃ (b : Book) (m : Mach) (sts : List Stg) (sf : Addr) (v : V) (row : CRow) (A : Nat → Nat → Prop), vs = [.ref sf, v] ∧ Wb C b m sts H sf ∧ Std b m sts ∧ rL (rO rN) H v row ∧ LRow sts.length A row ∧
  ∀ (p : Addr) (H' : Hp) (row' : CRow), Fe H H' → H p = none → H' p = some (.lst (row'.map oV)) → LRow sts.length (Cl (Told b m sts none) A) row' → Q (.ref p) H'
theorem some_set {row : CRow} {to v h c : Nat} (e : row[h]? = some (some c)) : ∃ c', (row.set to (some v))[h]? = some (some c') := by
  rw [List.getElem?_set]
  by_cases q : to = h
  · subst q
    rw [if_pos rfl, if_pos (List.getElem?_eq_some_iff.mp e).1]
    exact ⟨_, rfl⟩
  · rw [if_neg q]; exact ⟨c, e⟩
def CLW (sf a p : Addr) (H : Hp) (n : Nat) (S : Nat → Nat → Nat → Prop) (A0 : Nat → Nat → Prop) (M D : Nat) (k : Nat) (σ' : L2.St) (H' : Hp) : Prop :=
  ∃ (told : CRow) (fs : List Nat) (F : Addr) (o4 o5 o6 o7 o8 : Option V), σ' = [some (.ref sf), some (.ref a), some (.ref p), some (.ref F), o4, o5, o6, o7, o8] ∧ Fe H H' ∧ F ≠ p ∧
    H' p = some (.lst (told.map oV)) ∧ H' F = some (.lst (fs.map vN)) ∧ Rlx n S A0 M D told ∧ (∀ h ∈ fs, h < n ∧ ∃ c, told[h]? = some (some c)) ∧ Rxs S told (· ∈ fs) ∧ k = 2 * Phi (M + n * D) told + (if fs = [] then 0 else 1)
def CLI (sf a p F G : Addr) (H : Hp) (n : Nat) (S : Nat → Nat → Nat → Prop) (A0 : Nat → Nat → Prop) (M D : Nat) (fs : List Nat) (i h c ph : Nat) (mv : List (Nat × Nat × Unit)) (j : Nat) (σ' : L2.St) (H2 : Hp) : Prop :=
  ∃ (told' : CRow) (ks : List Nat) (o6 o7 o8 : Option V), σ' = [some (.ref sf), some (.ref a), some (.ref p), some (.ref F), some (.ref G), some (vN h), o6, o7, o8] ∧ Fe H H2 ∧
    H2 p = some (.lst (told'.map oV)) ∧ H2 F = some (.lst (fs.map vN)) ∧ H2 G = some (.dK (tks kN ks)) ∧ ks.Nodup ∧ Rlx n S A0 M D told' ∧ (∀ h ∈ fs, h < n ∧ ∃ c, told'[h]? = some (some c)) ∧
    (∀ h ∈ ks, h < n ∧ ∃ c, told'[h]? = some (some c)) ∧ told'[h]? = some (some c) ∧ Rxs S told' (fun h' => h' ∈ fs.drop (i + 1) ∨ h' ∈ ks ∨ h' = h) ∧ (∀ to d, (to, d, ()) ∈ mv.take j → Rx told' h to d) ∧
    Phi (M + n * D) told' ≤ ph ∧ (ks ≠ [] → Phi (M + n * D) told' < ph)
section
variable {P : Program} {w : World} {K : PySem.W.Frag} {g : Str → Option Value} {base : Heap}
theorem ok_MoveWeb_closed (T : Txt K g) : FnOk P w K g base CX0 1 T.d_MoveWeb_closed.f T.d_MoveWeb_closed.fd P_MoveWeb_closed (spClosed T.c_MoveWeb) := by
  refine T.d_MoveWeb_closed.F.ok sc_MoveWeb_closed (fun vs H Q E h => ?_) (fun cdv A outer s H vs Q E hr h => ?_)
  · obtain ⟨_, _, _, _, _, _, _, rfl, _⟩ := h
    rfl
  · obtain ⟨b, m, sts, sf, v, row, A, rfl, hw, sd, hrow, hA, kk⟩ := h
    have hu := hu_of hr
    refine ⟨_, (pss_cons (ps_set (i := 2) sc_MoveWeb_closed.nd rfl (by first | exact Or.inl rfl | exact Or.inr rfl) (pe_callTy (kc_list (K := K) rfl) (by rfl) T.z_list (by decide +kernel) (pa_cons (pv 1) pa_nil)))
    (pss_cons (ps_setLc (i := 3) (own := [("home", 5), ("cost", 7)]) rfl sc_MoveWeb_closed.nd rfl rfl (sw_true rfl rfl rfl (by decide +kernel)) (ki_enum (K := K) rfl rfl T.z_enumerate (pa_cons (pv 2) pa_nil)) (blkOk_by (N := N_MoveWeb_closed) (sc := defScope s_MoveWeb_closed) (by decide +kernel)) (fun _ _ _ _ _ => by exact (kg_tup (K := K) 2 rfl rfl (pgs_cons (pg_name (i := 5) sc_MoveWeb_closed.nd rfl (by first | exact Or.inl rfl | exact Or.inr rfl)) (pgs_cons (pg_name (i := 7) sc_MoveWeb_closed.nd rfl (by first | exact Or.inl rfl | exact Or.inr rfl)) pgs_nil)))) (fun _ _ _ _ _ => by exact pts_one (pt_cmpR op_notN (pv 7) pe_non (nomark _))) (fun _ _ _ _ _ => by exact (pv 5)))
    (pss_cons (ps_while PassesOwn.never (kt_truth (K := K) rfl (pv 3))
      (pss_cons (ps_set (i := 4) sc_MoveWeb_closed.nd rfl (by first | exact Or.inl rfl | exact Or.inr rfl) pe_dnewK)
      (pss_cons (ps_for PassesOwn.never rfl (ki_list (K := K) rfl (pv 3)) (pg_name (i := 5) sc_MoveWeb_closed.nd rfl (by first | exact Or.inl rfl | exact Or.inr rfl))
        (pss_one (ps_for PassesOwn.never rfl (ki_list (K := K) rfl (pe_ix (kx_list (K := K) rfl) (ke_fld (K := K) rfl (pv 0) rfl) (pv 5) (fun _ _ => rfl))) (kg_tup (K := K) 3 rfl rfl (pgs_cons (pg_name (i := 6) sc_MoveWeb_closed.nd rfl (by first | exact Or.inl rfl | exact Or.inr rfl)) (pgs_cons (pg_name (i := 7) sc_MoveWeb_closed.nd rfl (by first | exact Or.inl rfl | exact Or.inr rfl)) (pgs_cons (pg_name (i := 8) sc_MoveWeb_closed.nd rfl (by first | exact Or.inl rfl | exact Or.inr rfl)) pgs_nil))))
          (pss_one (ps_if (PW.pt (pw_or (pt_cmpR op_isN (pe_ix (kx_list (K := K) rfl) (pv 2) (pv 6) (fun _ _ => rfl)) pe_non (nomark _)) (pw_or1 (pt_cmpR op_lt (pe_op op_add (pe_ix (kx_list (K := K) rfl) (pv 2) (pv 5) (fun _ _ => rfl)) (pv 7)) (pe_ix (kx_list (K := K) rfl) (pv 2) (pv 6) (fun _ _ => rfl)) (nomark _)))))
            (pss_cons (ps_asg (pe_op op_add (pe_ix (kx_list (K := K) rfl) (pv 2) (pv 5) (fun _ _ => rfl)) (pv 7)) (pg_sub (pv 2) (pv 6) set_list))
            (pss_one (ps_dput hu (pv 4) (pv 6) pe_bl rfl)))
            pss_nil)))))
      (pss_one (ps_set (i := 3) sc_MoveWeb_closed.nd rfl (by first | exact Or.inl rfl | exact Or.inr rfl) (pe_callTy (kc_listD rfl) (by rfl) T.z_list (by decide +kernel) (pa_cons (pv 4) pa_nil)))))))
    (pss_one (ps_ret (pv 2)))))), ?_⟩
    obtain ⟨a, xs, rfl, ha, hxs⟩ := id hrow
    have hxo := hxs.opts
    subst hxo
    have hfew := sd.few
    have hlen := hA.len
    -- told = list(row)
    refine ⟨_, rfl, a, _, rfl, .inl (SqL.of ha), fun p hp => ?_⟩
    have e0 : Fe H (upd H p (.lst (row.map oV))) := Fe.new hp
    -- fresh
    refine ⟨_, rfl, p, _, rfl, SqL.of upd_same, fun F hF => lc_by row.length (fun i H' => Cmp rN _ F (fr row i) H' ∧ H' p = some (.lst (row.map oV))) ⟨Cmp.start hF, by rw [upd_ne (ne_of_none upd_same hF)]; exact upd_same⟩ (fun i H' hi c => ?_) (fun H' c => ?_) ?_ ?_⟩
    · exact enum_go c.2 (by rw [List.length_map]; exact hi)
    · exact enum_stop c.2 (by rw [List.length_map]; exact Nat.le_refl _)
    · intro i x H' H4 hi c hyd
      obtain ⟨U, y, rfl, hU, rfl, hy⟩ := enum_yld c.2 hyd
      clear hyd
      rw [at_oV (List.getElem?_eq_getElem hi)] at hy
      cases hy
      have fU : Fe H' (upd H' U (.tup [.int (i : Int), oV row[i]])) := Fe.new hU
      refine ⟨U, _, rfl, SqT.of upd_same, rfl, _, _, rfl, _, _, rfl, rfl, rfl, ?_⟩
      have q := fr_succ row i
      rw [List.getElem?_eq_getElem hi] at q
      have hfl : (fr row i).length < 1000000 := by have := fr_len row i; omega
      have nF : p ≠ F := ne_of_none upd_same hF
      cases hc : row[i] with
      | none =>
        rw [hc] at q
        rw [show fr row (i + 1) = fr row i from q.trans (List.append_nil _)]
        rw [hc] at fU
        exact ⟨_, rfl, rfl, _, rfl, iteF ⟨c.1.skip fU, fU.k c.2⟩⟩
      | some d =>
        rw [hc] at q
        rw [show fr row (i + 1) = fr row i ++ [i] from q]
        rw [hc] at fU
        refine ⟨_, rfl, rfl, _, rfl, iteT ⟨_, rfl, ?_⟩⟩
        obtain ⟨acc, h1, h2, h3⟩ := c.1.add hfl fU (show rN _ (vN i) i from rfl)
        exact ⟨acc, h1, h2, h3, by rw [upd_ne nF]; exact fU.k c.2⟩
    · intro H1 c
      obtain ⟨_, xs0, eF, hFx, hFl⟩ := c.1.rl
      cases eF
      have e1 := e0.trans c.1.fe
      obtain ⟨M, hM⟩ := row_max row
      obtain ⟨D, hD⟩ := list_max (b.2.map fun e => e.2.2)
      have hDS : ∀ h to d, Told b m sts none h to d → d ≤ D := fun h to d t => by
        rcases told_cost t with rfl | h
        · exact Nat.zero_le _
        · exact hD _ h
      have hfn := hFl.nats
      subst hfn
      have nF : F ≠ p := (ne_of_none upd_same hF).symm
      have hn : ∀ h c, row[h]? = some (some c) → h < row.length := fun h c e => (List.getElem?_eq_some_iff.mp e).1
      refine ⟨CLW sf a p H sts.length (Told b m sts none) A M D, ⟨_, row, fr row row.length, F, _, _, _, _, _, rfl, e1, nF, c.2, hFx, .start hA hM, fun h hh => ?_, fun h to d hnot s c' hc' => ?_, rfl⟩, ?_⟩
      · obtain ⟨h1, h2⟩ := fr_mem.mp hh
        exact ⟨by omega, h2⟩
      · exact absurd (fr_mem.mpr ⟨hn h c' hc', c', hc'⟩) hnot
      clear hFx hFl nF c
      rintro k σ' H' ⟨told, fs, F, o4, o5, o6, o7, o8, rfl, e, nF, hP, hFx, R, hfs, rx, rfl⟩
      refine ⟨_, rfl, !(fs.map vN).isEmpty, .inl ⟨_, SqL.of hFx, rfl⟩, ?_⟩
      cases hfse : fs with
      | nil =>
        subst hfse
        exact iteF ⟨_, rfl, kk p H' told e hp hP (R.done fun k to d s => rx k to d (by simp) s)⟩
      | cons f0 fs0 =>
        refine iteT ⟨fun σ2 H2 => ∃ k', k' < 2 * Phi (M + sts.length * D) told + (if f0 :: fs0 = [] then 0 else 1) ∧ CLW sf a p H sts.length (Told b m sts none) A M D k' σ2 H2, fun _ _ z => z, ?_⟩
        rw [← hfse]
        have hne : fs ≠ [] := by rw [hfse]; exact fun z => nomatch z
        clear hfse f0 fs0
        rw [if_neg hne]
        intro G hG
        have eG : Fe H' (upd H' G (.dK [])) := Fe.new hG
        refine ⟨_, rfl, F, rfl, ⟨_, SqL.of (eG.k hFx)⟩, for_lst (xs := fs.map vN) (fun i σ' H2 => ∃ (told' : CRow) (ks : List Nat) (o5 o6 o7 o8 : Option V), σ' = [some (.ref sf), some (.ref a), some (.ref p), some (.ref F), some (.ref G), o5, o6, o7, o8] ∧ Fe H H2 ∧
          H2 p = some (.lst (told'.map oV)) ∧ H2 F = some (.lst (fs.map vN)) ∧ H2 G = some (.dK (tks kN ks)) ∧ ks.Nodup ∧ Rlx sts.length (Told b m sts none) A M D told' ∧ (∀ h ∈ fs, h < sts.length ∧ ∃ c, told'[h]? = some (some c)) ∧
          (∀ h ∈ ks, h < sts.length ∧ ∃ c, told'[h]? = some (some c)) ∧ Rxs (Told b m sts none) told' (fun h => h ∈ fs.drop i ∨ h ∈ ks) ∧ Phi (M + sts.length * D) told' ≤ Phi (M + sts.length * D) told ∧ (ks ≠ [] → Phi (M + sts.length * D) told' < Phi (M + sts.length * D) told))
          ⟨told, [], _, _, _, _, rfl, e.trans eG, eG.k hP, eG.k hFx, upd_same, List.nodup_nil, R, hfs, (fun _ z => nomatch z), fun h to d q s => rx h to d (fun z => q (.inl z)) s, Nat.le_refl _, fun z => absurd rfl z⟩ (fun i σ' H2 _ ⟨_, _, _, _, _, _, _, _, _, q, _⟩ => q) ?_ ?_⟩
        · rintro i x σ' H2 hx ⟨told', ks, o5, o6, o7, o8, rfl, e2, hP2, hF2, hG2, hkn, R2, hfs2, hks2, rx2, ph1, ph2⟩
          have hi : i < fs.length := by
            have := (List.getElem?_eq_some_iff.mp hx).1
            rwa [List.length_map] at this
          rw [List.getElem?_map, List.getElem?_eq_getElem hi] at hx
          cases hx
          obtain ⟨hhn, c, hc⟩ := hfs2 fs[i] (List.getElem_mem hi)
          have hdrop : fs.drop i = fs[i] :: fs.drop (i + 1) := List.drop_eq_getElem_cons hi
          rw [hdrop] at rx2
          generalize fs[i] = h at hhn hc hdrop rx2 ⊢
          obtain ⟨H0, L, dx, vb, vm, as, ss, ah, rd, W, Rw⟩ := id hw
          obtain ⟨p0, hp0, hins⟩ := W.ins
          obtain ⟨d, q, ys, mv, hd, hd1, hq, hys, hal, hmv⟩ := Rw.here W.mats (j := 0) (k := none) rfl hhn
          have ep : p0 = d.1 := by
            rw [List.getElem?_map, hd] at hp0
            exact (Option.some.inj hp0).symm
          subst ep
          refine ⟨_, rfl, sf, _, dx, _, _, rfl, e2.k hins, T.cl_MoveWeb, T.na_MoveWeb_silent, wfl_l, _, rfl, d.1, _, _, .ref q, rfl, rfl, SqL.of (e2.k hd1), atI_nat (by rw [List.getElem?_map, hq]; rfl), q, rfl, ⟨_, SqL.of (e2.k hys)⟩, for_lst (xs := ys) (CLI sf a p F G H sts.length (Told b m sts none) A M D fs i h c (Phi (M + sts.length * D) told) mv)
            ⟨told', ks, _, _, _, rfl, e2, hP2, hF2, hG2, hkn, R2, hfs2, hks2, hc, fun h' to d z s => rx2 h' to d (fun z' => z (z'.elim (fun z' => (List.mem_cons.mp z').elim (fun z' => .inr (.inr z')) .inl) (fun z' => .inr (.inl z')))) s, (fun _ _ z => nomatch z), ph1, ph2⟩
            (fun j σ' H2 _ ⟨_, _, _, _, _, _, e, _⟩ => e.k hys) ?_ ?_⟩
          · clear hdrop rx2 hks2 hfs2 hkn hG2 hF2 hP2 e2 R2 hc ph1 ph2
            rintro j x σ' H3 hx ⟨told1, k1, o6, o7, o8, rfl, e3, hP3, hF3, hG3, hkn, R3, hfs3, hks3, hc, rx3, hmj, ph1, ph2⟩
            obtain ⟨⟨to, cost, u⟩, hto, hxr⟩ := hal.get hx
            obtain ⟨ua, x1, x2, x3, rfl, hua, rfl, rfl, _⟩ := id hxr
            have hS : Told b m sts none h to cost := (hmv to cost).mp (List.mem_of_getElem? hto)
            have hton := (told_lt hS).2
            obtain ⟨oo, hto1⟩ : ∃ oo, told1[to]? = some oo := ⟨told1[to]'(by rw [R3.len]; exact hton), List.getElem?_eq_getElem (by rw [R3.len]; exact hton)⟩
            have htk : mv.take (j + 1) = mv.take j ++ [(to, cost, u)] := by rw [List.take_add_one, hto]; rfl
            have hkl : k1.length ≤ 4000 := Nat.le_trans (nodup_below sts.length k1 hkn fun x hx => (hks3 x hx).1) hfew
            refine ⟨ua, _, rfl, SqT.of (e3.k hua), rfl, _, _, rfl, _, _, rfl, _, _, rfl, rfl, ?_⟩
            have nGp : G ≠ p := ne_of hG3 hP3 (fun z => nomatch z)
            have nFG : F ≠ G := ne_of hF3 hG3 (fun z => nomatch z)
            have fin : Bet oo (c + cost) → CLI sf a p F G H sts.length (Told b m sts none) A M D fs i h c (Phi (M + sts.length * D) told) mv (j + 1) [some (.ref sf), some (.ref a), some (.ref p), some (.ref F), some (.ref G), some (vN h), some (vN to), some (vN cost), some x3]
                (upd (upd H3 p (.lst ((told1.map oV).set to (vN (c + cost))))) G (.dK (putK (tks kN k1) (kN to) (.bl true)))) := by
              intro hb
              obtain ⟨R4, ph4⟩ := R3.put hc hS (hDS _ _ _ hS) hto1 hb
              have hne : h ≠ to := by
                intro z
                subst z
                rw [hc] at hto1
                cases hto1
                exact absurd (hb c rfl) (by omega)
              refine ⟨told1.set to (some (c + cost)), ins to k1, _, _, _, rfl, (e3.mut hp).mut (e.free hG), ?_, ?_, ?_, nd_ins hkn, R4, fun x hx => ⟨(hfs3 x hx).1, ?_⟩, fun x hx => ?_, ?_, fun h' t2 d2 z s => ?_, fun t2 d2 hm => ?_, by omega, fun _ => by omega⟩
              · rw [upd_ne nGp.symm, upd_same, set_oV]
              · rw [upd_ne nFG, upd_ne nF]; exact hF3
              · rw [upd_same, tks_put kN kN_inj]
              · obtain ⟨c', hc'⟩ := (hfs3 x hx).2
                exact some_set hc'
              · rcases mem_ins.mp hx with rfl | hx
                · exact ⟨hton, c + cost, by rw [List.getElem?_set, if_pos rfl, if_pos (List.getElem?_eq_some_iff.mp hto1).1]⟩
                · obtain ⟨c', hc'⟩ := (hks3 x hx).2
                  exact ⟨(hks3 x hx).1, some_set hc'⟩
              · rw [List.getElem?_set, if_neg hne.symm]; exact hc
              · have n1 : h' ≠ to := fun q => z (.inr (.inl (mem_ins.mpr (.inl q))))
                exact Rx.put hto1 hb n1 (rx3 h' t2 d2 (fun q => z (q.elim .inl fun q => q.elim (fun q => .inr (.inl (mem_ins.mpr (.inr q)))) fun q => .inr (.inr q))) s)
              · rw [htk] at hm
                rcases List.mem_append.mp hm with hm | hm
                · exact Rx.put hto1 hb hne (hmj t2 d2 hm)
                · have q := List.mem_singleton.mp hm
                  injection q with q1 q2
                  injection q2 with q2 _
                  subst q1 q2
                  exact Rx.here hc hto1 hb
            have stay : ¬ Bet oo (c + cost) → CLI sf a p F G H sts.length (Told b m sts none) A M D fs i h c (Phi (M + sts.length * D) told) mv (j + 1) [some (.ref sf), some (.ref a), some (.ref p), some (.ref F), some (.ref G), some (vN h), some (vN to), some (vN cost), some x3] H3 := by
              intro hb
              refine ⟨told1, k1, _, _, _, rfl, e3, hP3, hF3, hG3, hkn, R3, hfs3, hks3, hc, rx3, fun t2 d2 hm => ?_, ph1, ph2⟩
              rw [htk] at hm
              rcases List.mem_append.mp hm with hm | hm
              · exact hmj t2 d2 hm
              · have q := List.mem_singleton.mp hm
                injection q with q1 q2
                injection q2 with q2 _
                subst q1 q2
                exact Rx.well hc hto1 hb
            have sz : (tks kN k1).length + 1 ≤ sizeLine := by rw [tks_len, sizeLine_eq]; omega
            have hto2 : to < (told1.map oV).length := by rw [List.length_map]; exact (List.getElem?_eq_some_iff.mp hto1).1
            have hG4 : (upd H3 p (.lst ((told1.map oV).set to (vN (c + cost))))) G = some (.dK (tks kN k1)) := by rw [upd_ne nGp]; exact hG3
            refine ⟨_, rfl, _, rfl, p, _, _, _, rfl, rfl, SqL.of hP3, atI_nat (at_oV hto1), rfl, _, rfl, ?_⟩
            cases oo with
            | none =>
              refine iteT (iteT ?_)
              refine ⟨_, rfl, _, rfl, p, _, _, _, rfl, rfl, SqL.of hP3, atI_nat (at_oV hc), _, rfl, _, _, rfl, rfl, _, rfl, _, rfl, p, _, _, _, rfl, rfl, hP3, ixn hto2, ?_⟩
              exact ⟨_, rfl, _, rfl, G, _, rfl, DPut.k (k := kN to) hG4 sz, fin bet_none⟩
            | some e4 =>
              refine iteF ⟨_, rfl, _, rfl, p, _, _, _, rfl, rfl, SqL.of hP3, atI_nat (at_oV hc), _, rfl, _, _, rfl, rfl, _, rfl, _, rfl, p, _, _, _, rfl, rfl, SqL.of hP3, atI_nat (at_oV hto1), _, _, rfl, rfl, _, rfl, ?_⟩
              by_cases hl : c + cost < e4
              · rw [decide_eq_true (show ((c : Int) + (cost : Int) < (e4 : Int)) by omega)]
                refine iteT ?_
                refine ⟨_, rfl, _, rfl, p, _, _, _, rfl, rfl, SqL.of hP3, atI_nat (at_oV hc), _, rfl, _, _, rfl, rfl, _, rfl, _, rfl, p, _, _, _, rfl, rfl, hP3, ixn hto2, ?_⟩
                exact ⟨_, rfl, _, rfl, G, _, rfl, DPut.k (k := kN to) hG4 sz, fin (bet_some.mpr hl)⟩
              · rw [decide_eq_false (show ¬ ((c : Int) + (cost : Int) < (e4 : Int)) by omega)]
                exact iteF (stay fun z => hl (bet_some.mp z))
          · rintro σ' H3 ⟨told1, k1, o6, o7, o8, rfl, e3, hP3, hF3, hG3, hkn, R3, hfs3, hks3, hc, rx3, hmj, ph1, ph2⟩
            refine ⟨told1, k1, _, _, _, _, rfl, e3, hP3, hF3, hG3, hkn, R3, hfs3, hks3, fun h' to d z s => ?_, ph1, ph2⟩
            rw [hal.len, List.take_length] at hmj
            by_cases q : h' = h
            · subst q
              exact hmj to d ((hmv to d).mpr s)
            · exact rx3 h' to d (fun z' => z (z'.elim .inl fun z' => z'.elim .inr fun z' => absurd z' q)) s
        · rintro σ' H2 ⟨told', ks, o5, o6, o7, o8, rfl, e2, hP2, hF2, hG2, hkn, R2, hfs2, hks2, rx2, ph1, ph2⟩
          refine ⟨_, rfl, G, _, rfl, .inl hG2, fun F2 hF2n => ?_⟩
          have eF2 : Fe H2 (upd H2 F2 (.lst ((tks kN ks).map fun kv => kV kv.1))) := Fe.new hF2n
          refine ⟨_, ?_, told', ks, F2, _, _, _, _, _, rfl, e2.trans eF2, (ne_of_none hP2 hF2n).symm, eF2.k hP2, ?_, R2, hks2, fun h to d z s => rx2 h to d (fun z' => z'.elim (fun z2 => ?_) z) s, rfl⟩
          · by_cases z : ks = []
            · rw [if_pos z]; omega
            · rw [if_neg z]; have := ph2 z; omega
          · rw [upd_same]
            refine congrArg some (congrArg HO.lst ?_)
            unfold tks
            rw [List.map_map]; rfl
          · rw [List.length_map, List.drop_length] at z2
            exact nomatch z2
end
end Fm
namespace Fm
open PySem L2
def A0 (sts : List Stg) (h c : Nat) : Prop := sts[h]? = some (0, []) ∧ c = 0
def nxt (b : Book) (m : Mach) (sts : List Stg) (A : Nat → Nat → Prop) (x : Nat) : Nat → Nat → Prop := Cl (Told b m sts none) (Bh (Told b m sts (some x)) A)
def Rc (b : Book) (m : Mach) (sts : List Stg) (t : List Nat) : Nat → Nat → Prop := t.foldl (nxt b m sts) (Cl (Told b m sts none) (A0 sts))
/-- what a def that returns a cost row promises -/
def RowQ (H : Hp) (n : Nat) (A : Nat → Nat → Prop) (Q : VK) : Prop := ∀ (p : Addr) (H' : Hp) (row' : CRow), Fe H H' → H p = none → H' p = some (.lst (row'.map oV)) → LRow n A row' → Q (.ref p) H'
def spBegun (C : Addr) : Sp := fun vs H Q _ => ∃ (b : Book) (m : Mach) (sts : List Stg) (sf : Addr), vs = [.ref sf] ∧ Wb C b m sts H sf ∧ Std b m sts ∧ RowQ H sts.length (Cl (Told b m sts none) (A0 sts)) Q
def spBehind (C : Addr) : Sp := fun vs H Q _ => ∃ (b : Book) (m : Mach) (sts : List Stg) (sf : Addr) (v : V) (row : CRow) (A : Nat → Nat → Prop) (x : Nat), vs = [.ref sf, v, .str ⟨#[x]⟩] ∧ Wb C b m sts H sf ∧ Std b m sts ∧ rL (rO rN) H v row ∧ LRow sts.length A row ∧ x ∈ b.1 ∧
  RowQ H sts.length (nxt b m sts A x) Q
def spAlong (C : Addr) : Sp := fun vs H Q _ => ∃ (b : Book) (m : Mach) (sts : List Stg) (sf : Addr) (t : List Nat), vs = [.ref sf, .str ⟨t.toArray⟩] ∧ Wb C b m sts H sf ∧ Std b m sts ∧ (∀ x ∈ t, x ∈ b.1) ∧ RowQ H sts.length (Rc b m sts t) Q
def spLeastOf : Sp := fun vs H Q _ => ∃ (v : V) (l : CRow), vs = [v] ∧ rL (rO rN) H v l ∧ l.length ≤ 100000 ∧ ∀ H', Fe H H' → Q (oV (least fun c => some c ∈ l)) H'
theorem Std.start {b : Book} {m : Mach} {sts : List Stg} (s : Std b m sts) : ∃ i : Nat, sts[i]? = some (0, []) := s.ok.idx s.ok.mo.pos (.inl rfl)
theorem nxt_congr {b : Book} {m : Mach} {sts : List Stg} {n : Nat} {A : Nat → Nat → Prop} {x : Nat} {row : CRow} (h : LRow n A row) {told : CRow} (L : LRow n (Bh (Told b m sts (some x)) fun h c => row[h]? = some (some c)) told) : LRow n (Bh (Told b m sts (some x)) A) told :=
  L.imp (fun to c ⟨h0, c0, d, h1, h2, h3⟩ => ⟨h0, c0, d, h.snd h0 c0 h1, h2, h3⟩) (fun to c ⟨h0, c0, d, h1, h2, h3⟩ => by
    obtain ⟨c', h4, h5⟩ := h.low h0 c0 h1
    exact ⟨c' + d, ⟨h0, c', d, h4, h2, rfl⟩, by omega⟩)
section
variable {P : Program} {w : World} {K : PySem.W.Frag} {g : Str → Option Value} {base : Heap}
theorem ok_MoveWeb_begun (T : Txt K g) : FnOk P w K g base CX0 2 T.d_MoveWeb_begun.f T.d_MoveWeb_begun.fd P_MoveWeb_begun (spBegun T.c_MoveWeb) := by
  refine T.d_MoveWeb_begun.F.ok sc_MoveWeb_begun (fun vs H Q E h => ?_) (fun cdv A outer s H vs Q E hr h => ?_)
  · obtain ⟨_, _, _, _, rfl, _⟩ := h
    rfl
  · obtain ⟨b, m, sts, sf, rfl, hw, sd, kk⟩ := h
    have hu := hu_of hr
    refine ⟨_, (pss_cons (ps_set (i := 1) sc_MoveWeb_begun.nd rfl (by first | exact Or.inl rfl | exact Or.inr rfl) (pe_op op_rep (pe_lst (pa_cons pe_non pa_nil)) (pe_callB (kc_len (K := K) rfl) (by rfl) T.z_len PySem.boot_len (pa_cons (ke_fld (K := K) rfl (pv 0) rfl) pa_nil))))
    (pss_cons (ps_asg pe_int (pg_sub (pv 1) (pe_dget hu (ke_fld (K := K) rfl (pv 0) rfl) (pe_tup (pa_cons pe_int (pa_cons pe_str pa_nil))) (fun _ _ => rfl)) set_list))
    (pss_one (ps_ret (pe_meth (pv 0) T.cl_MoveWeb T.d_MoveWeb_closed.m (ok_MoveWeb_closed T) (hr.mono (by decide)) T.d_MoveWeb_closed.b .nil pass0 (pa_cons (pv 1) pa_nil)))))), ?_⟩
    obtain ⟨H0, L, dx, vb, vm, as, ss, ah, rd, W, Rw⟩ := id hw
    obtain ⟨p0, hp0, hins⟩ := W.ins
    have hfew := sd.few
    have hsl := W.hx.len
    refine ⟨by show 1 ≤ sizeLine; decide, fun p1 hp1 => ?_⟩
    have f1 : Fe H (upd H p1 (.lst [V.non])) := Fe.new hp1
    refine ⟨_, rfl, sf, _, dx, _, _, rfl, f1.k hins, T.cl_MoveWeb, T.na_MoveWeb_standings, wfl_s, as, ss, rfl, .inl (SqL.of (f1.k W.hs)), p1, _, _, rfl, rfl, upd_same, by omega, by omega, by rw [sizeLine_eq]; simp only [List.length_singleton]; omega, fun p hp => ?_⟩
    have en : (List.replicate ((ss.length : Nat) : Int).toNat [V.non]).flatten = (List.replicate sts.length none : CRow).map oV := by
      rw [rep_oV, Int.toNat_natCast, hsl]
    rw [en]
    obtain ⟨i0, hi0⟩ := sd.start
    have f2 := f1.trans (Fe.new (o := .lst ((List.replicate sts.length none : CRow).map oV)) hp)
    refine ⟨_, rfl, _, rfl, sf, _, dx, _, _, rfl, f2.k hins, T.cl_MoveWeb, T.na_MoveWeb_homes, wfl_h, by show 2 ≤ sizeLine; decide, fun U hU => ?_⟩
    have g1 : (upd (upd (upd H p1 (.lst [V.non])) p (.lst ((List.replicate sts.length none : CRow).map oV))) U (.tup [.int 0, .str ""])) U = some (.tup ((kSt (0, [])).map kV)) := by rw [upd_same, str_nil]; rfl
    have fU := Fe.new (o := .tup [.int 0, .str ""]) hU
    have f3 := f2.trans fU
    have hi : i0 < sts.length := (List.getElem?_eq_some_iff.mp hi0).1
    have pU : (upd (upd (upd H p1 (.lst [V.non])) p (.lst ((List.replicate sts.length none : CRow).map oV))) U (.tup [.int 0, .str ""])) p = some (.lst ((List.replicate sts.length none : CRow).map oV)) := fU.k upd_same
    refine ⟨ah, .int (i0 : Int), rfl, by rw [← hkvs_at sd.ok.nd hi0]; exact DGet.t (f3.k W.hh) g1, p, _, _, _, rfl, rfl, pU, ixn (by rw [List.length_map, List.length_replicate]; exact hi), ?_⟩
    have hpn : H p = none := f1.free hp
    have f4 := f3.mut (o := .lst (((List.replicate sts.length none : CRow).map oV).set i0 (.int 0))) hpn
    refine ⟨_, rfl, sf, dx, _, rfl, f4.k hins, wfl_no (by decide +kernel) (by decide +kernel) (by decide +kernel) (by decide +kernel) (by decide +kernel) (by decide +kernel), _, rfl, ?_⟩
    refine ⟨b, m, sts, sf, .ref p, (List.replicate sts.length none : CRow).set i0 (some 0), A0 sts, rfl, hw.f f4, sd, ⟨p, _, rfl, upd_same, ?_⟩, ?_, fun p2 H' row' e hp2 hH' hL => kk p2 H' row' (f4.trans e) (f4.free hp2) hH' hL⟩
    · have := set_oV (List.replicate sts.length none) i0 0
      rw [show (V.int 0) = vN 0 from rfl, this]
      exact Al.ofOpts _
    · have R0 := (LRow.nothing sts.length).put (to := i0) (v := 0) (o := none) (by rw [List.getElem?_replicate, if_pos hi]) bet_none
      refine R0.imp (fun h c z => ?_) (fun h c z => ⟨c, .inr ⟨?_, z.2⟩, Nat.le_refl _⟩)
      · rcases z with z | ⟨rfl, rfl⟩
        · exact z.elim
        · exact ⟨hi0, rfl⟩
      · exact nd_ix sd.ok.nd z.1 hi0
theorem ok_MoveWeb_behind (T : Txt K g) : FnOk P w K g base CX0 2 T.d_MoveWeb_behind.f T.d_MoveWeb_behind.fd P_MoveWeb_behind (spBehind T.c_MoveWeb) := by
  refine T.d_MoveWeb_behind.F.ok sc_MoveWeb_behind (fun vs H Q E h => ?_) (fun cdv A outer s H vs Q E hr h => ?_)
  · obtain ⟨_, _, _, _, _, _, _, _, rfl, _⟩ := h
    rfl
  · obtain ⟨b, m, sts, sf, v, row, B, x, rfl, hw, sd, hrow, hA, hx, kk⟩ := h
    have hu := hu_of hr
    refine ⟨_, (pss_cons (ps_set (i := 3) sc_MoveWeb_behind.nd rfl (by first | exact Or.inl rfl | exact Or.inr rfl) (pe_op op_rep (pe_lst (pa_cons pe_non pa_nil)) (pe_callB (kc_len (K := K) rfl) (by rfl) T.z_len PySem.boot_len (pa_cons (pv 1) pa_nil))))
    (pss_cons (ps_for PassesOwn.never rfl (ki_enum (K := K) rfl rfl T.z_enumerate (pa_cons (pv 1) pa_nil)) (kg_tup (K := K) 2 rfl rfl (pgs_cons (pg_name (i := 4) sc_MoveWeb_behind.nd rfl (by first | exact Or.inl rfl | exact Or.inr rfl)) (pgs_cons (pg_name (i := 5) sc_MoveWeb_behind.nd rfl (by first | exact Or.inl rfl | exact Or.inr rfl)) pgs_nil)))
      (pss_one (ps_if (pt_cmpR op_notN (pv 5) pe_non (nomark _))
        (pss_one (ps_for PassesOwn.never rfl (ki_list (K := K) rfl (pe_ix (kx_list (K := K) rfl) (pe_dget hu (ke_fld (K := K) rfl (pv 0) rfl) (pv 2) (fun _ _ => rfl)) (pv 4) (fun _ _ => rfl))) (kg_tup (K := K) 3 rfl rfl (pgs_cons (pg_name (i := 6) sc_MoveWeb_behind.nd rfl (by first | exact Or.inl rfl | exact Or.inr rfl)) (pgs_cons (pg_name (i := 7) sc_MoveWeb_behind.nd rfl (by first | exact Or.inl rfl | exact Or.inr rfl)) (pgs_cons (pg_name (i := 8) sc_MoveWeb_behind.nd rfl (by first | exact Or.inl rfl | exact Or.inr rfl)) pgs_nil))))
          (pss_one (ps_if (PW.pt (pw_or (pt_cmpR op_isN (pe_ix (kx_list (K := K) rfl) (pv 3) (pv 6) (fun _ _ => rfl)) pe_non (nomark _)) (pw_or1 (pt_cmpR op_lt (pe_op op_add (pv 5) (pv 7)) (pe_ix (kx_list (K := K) rfl) (pv 3) (pv 6) (fun _ _ => rfl)) (nomark _)))))
            (pss_one (ps_asg (pe_op op_add (pv 5) (pv 7)) (pg_sub (pv 3) (pv 6) set_list)))
            pss_nil))))
        pss_nil)))
    (pss_one (ps_ret (pe_meth (pv 0) T.cl_MoveWeb T.d_MoveWeb_closed.m (ok_MoveWeb_closed T) (hr.mono (by decide)) T.d_MoveWeb_closed.b .nil pass0 (pa_cons (pv 3) pa_nil)))))), ?_⟩
    obtain ⟨H0, L, dx, vb, vm, as, ss, ah, rd, W, Rw⟩ := id hw
    obtain ⟨p0, hp0, hins⟩ := W.ins
    have hfew := sd.few
    obtain ⟨a, xs, rfl, ha, hxs⟩ := id hrow
    have hxo := hxs.opts
    subst hxo
    have hlen := hA.len
    refine ⟨by show 1 ≤ sizeLine; decide, fun p1 hp1 => ?_⟩
    have f1 : Fe H (upd H p1 (.lst [V.non])) := Fe.new hp1
    refine ⟨_, rfl, a, _, rfl, .inl (SqL.of (f1.k ha)), p1, _, _, rfl, rfl, upd_same, by omega, by rw [List.length_map]; omega, by rw [sizeLine_eq, List.length_map]; simp only [List.length_singleton]; omega, fun p hp => ?_⟩
    have en : (List.replicate (((row.map oV).length : Nat) : Int).toNat [V.non]).flatten = (List.replicate sts.length none : CRow).map oV := by
      rw [rep_oV, Int.toNat_natCast, List.length_map, hlen]
    rw [en]
    have f2 := f1.trans (Fe.new (o := .lst ((List.replicate sts.length none : CRow).map oV)) hp)
    have hpn : H p = none := f1.free hp
    have hyl := hx
    obtain ⟨jj, hjj⟩ := List.mem_iff_getElem?.mp hyl
    have hkj : (keysOf b)[jj + 1]? = some (some x) := by
      show (b.1.map some)[jj]? = _
      rw [List.getElem?_map, hjj]; rfl
    -- for home, cost in enumerate(row)
    refine ⟨_, rfl, a, _, rfl, SqL.of (f2.k ha), for_enum (xs := row.map oV) (fun i σ' H' => ∃ (told : CRow) (o4 o5 o6 o7 o8 : Option V), σ' = [some (.ref sf), some (.ref a), some (.str ⟨#[x]⟩), some (.ref p), o4, o5, o6, o7, o8] ∧ Fe H H' ∧ H' p = some (.lst (told.map oV)) ∧
      LRow sts.length (Bh (Told b m sts (some x)) fun h c => h < i ∧ row[h]? = some (some c)) told)
      ⟨_, _, _, _, _, _, rfl, f2, upd_same, (LRow.nothing sts.length).imp (fun _ _ z => z.elim) (fun _ _ ⟨_, _, _, z, _⟩ => absurd z.1 (by omega))⟩ (fun i σ' H' _ ⟨_, _, _, _, _, _, _, e, _⟩ => e.k ha) ?_ ?_⟩
    · rintro i y σ' H' U hy ⟨told, o4, o5, o6, o7, o8, rfl, e, hP, R⟩ hU
      have hi : i < row.length := by
        have := (List.getElem?_eq_some_iff.mp hy).1
        rwa [List.length_map] at this
      rw [List.getElem?_map, List.getElem?_eq_getElem hi] at hy
      cases hy
      have fU : Fe H' (upd H' U (.tup [.int (i : Int), oV row[i]])) := Fe.new hU
      have e2 := e.trans fU
      have hP2 := fU.k hP
      refine ⟨U, _, rfl, SqT.of upd_same, rfl, _, _, rfl, _, _, rfl, rfl, ?_⟩
      have hri : row[i]? = some row[i] := List.getElem?_eq_getElem hi
      clear fU
      revert hri e2 hP2
      generalize row[i] = o
      intro e2 hP2 hri
      cases o with
      | none =>
        refine ⟨_, rfl, rfl, _, rfl, iteF ⟨told, _, _, _, _, _, rfl, e2, hP2, R.imp (fun to c ⟨h0, c0, d, h1, h2, h3⟩ => ⟨h0, c0, d, ⟨by omega, h1.2⟩, h2, h3⟩) (fun to c ⟨h0, c0, d, h1, h2, h3⟩ => ⟨c, ⟨h0, c0, d, ⟨?_, h1.2⟩, h2, h3⟩, Nat.le_refl _⟩)⟩⟩
        have : h0 ≠ i := fun z => by rw [z, hri] at h1; exact nomatch h1.2
        omega
      | some c0 =>
        refine ⟨_, rfl, rfl, _, rfl, iteT ?_⟩
        have hin : i < sts.length := by omega
        obtain ⟨d, q, ys, mv, hd, hd1, hq, hys, hal, hmv⟩ := Rw.here W.mats hkj hin
        have hd2' : ((L.map (·.1)).tail)[jj]? = some d.1 := by rw [List.getElem?_tail, List.getElem?_map, hd]; rfl
        refine ⟨_, rfl, sf, _, dx, _, _, rfl, e2.k hins, T.cl_MoveWeb, T.na_MoveWeb_reading, wfl_r, _, rfl, rd, .ref d.1, rfl, by rw [← rkvs_at sd.ok.ln hjj hd2']; exact DGet.k (k := kS [x]) (e2.k W.hr), _, rfl, d.1, _, _, .ref q, rfl, rfl, SqL.of (e2.k hd1), atI_nat (by rw [List.getElem?_map, hq]; rfl), q, rfl, ⟨_, SqL.of (e2.k hys)⟩,
          for_lst (xs := ys) (fun j σ' H' => ∃ (told : CRow) (o6 o7 o8 : Option V), σ' = [some (.ref sf), some (.ref a), some (.str ⟨#[x]⟩), some (.ref p), some (vN i), some (vN c0), o6, o7, o8] ∧ Fe H H' ∧ H' p = some (.lst (told.map oV)) ∧
            LRow sts.length (fun to c => Bh (Told b m sts (some x)) (fun h c => h < i ∧ row[h]? = some (some c)) to c ∨ ∃ d, (to, d, ()) ∈ mv.take j ∧ c = c0 + d) told)
            ⟨told, _, _, _, rfl, e2, hP2, R.imp (fun _ _ => .inl) (fun to c z => by
              rcases z with z | ⟨_, z, _⟩
              · exact ⟨c, z, Nat.le_refl _⟩
              · exact nomatch z)⟩ (fun j σ' H2 _ ⟨_, _, _, _, _, e, _⟩ => e.k hys) ?_ ?_⟩
        · clear e2 hP2 hP R e
          rintro j y σ' H3 hy ⟨told, o6, o7, o8, rfl, e, hP, R⟩
          obtain ⟨⟨to, cost, u⟩, hto, hxr⟩ := hal.get hy
          obtain ⟨ua, x1, x2, x3, rfl, hua, rfl, rfl, _⟩ := id hxr
          have hS : Told b m sts (some x) i to cost := (hmv to cost).mp (List.mem_of_getElem? hto)
          have hton := (told_lt hS).2
          obtain ⟨oo, hto1⟩ : ∃ oo, told[to]? = some oo := ⟨told[to]'(by rw [R.len]; exact hton), List.getElem?_eq_getElem (by rw [R.len]; exact hton)⟩
          have htk : mv.take (j + 1) = mv.take j ++ [(to, cost, u)] := by rw [List.take_add_one, hto]; rfl
          have hto2 : to < (told.map oV).length := by rw [List.length_map]; exact (List.getElem?_eq_some_iff.mp hto1).1
          have cong : ∀ told' : CRow, LRow sts.length (fun h c => (Bh (Told b m sts (some x)) (fun h c => h < i ∧ row[h]? = some (some c)) h c ∨ ∃ d, (h, d, ()) ∈ mv.take j ∧ c = c0 + d) ∨ (h = to ∧ c = c0 + cost)) told' →
              LRow sts.length (fun to c => Bh (Told b m sts (some x)) (fun h c => h < i ∧ row[h]? = some (some c)) to c ∨ ∃ d, (to, d, ()) ∈ mv.take (j + 1) ∧ c = c0 + d) told' := fun told' R' => by
            rw [htk]
            refine R'.imp ?_ ?_
            · rintro h c ((z | ⟨d, z1, z2⟩) | ⟨rfl, rfl⟩)
              · exact .inl z
              · exact .inr ⟨d, List.mem_append_left _ z1, z2⟩
              · exact .inr ⟨cost, List.mem_append_right _ (List.mem_singleton.mpr rfl), rfl⟩
            · rintro h c (z | ⟨d, z1, z2⟩)
              · exact ⟨c, .inl (.inl z), Nat.le_refl _⟩
              · rcases List.mem_append.mp z1 with z1 | z1
                · exact ⟨c, .inl (.inr ⟨d, z1, z2⟩), Nat.le_refl _⟩
                · have q := List.mem_singleton.mp z1
                  injection q with q1 q2
                  injection q2 with q2 _
                  subst q1 q2
                  exact ⟨c, .inr ⟨rfl, z2⟩, Nat.le_refl _⟩
          have fin : Bet oo (c0 + cost) → LRow sts.length (fun to c => Bh (Told b m sts (some x)) (fun h c => h < i ∧ row[h]? = some (some c)) to c ∨ ∃ d, (to, d, ()) ∈ mv.take (j + 1) ∧ c = c0 + d) (told.set to (some (c0 + cost))) := fun hb => cong _ (R.put hto1 hb)
          have stay : ¬ Bet oo (c0 + cost) → LRow sts.length (fun to c => Bh (Told b m sts (some x)) (fun h c => h < i ∧ row[h]? = some (some c)) to c ∨ ∃ d, (to, d, ()) ∈ mv.take (j + 1) ∧ c = c0 + d) told := fun hb => cong _ (R.keep hto1 hb)
          refine ⟨ua, _, rfl, SqT.of (e.k hua), rfl, _, _, rfl, _, _, rfl, _, _, rfl, rfl, ?_⟩
          refine ⟨_, rfl, _, rfl, p, _, _, _, rfl, rfl, SqL.of hP, atI_nat (at_oV hto1), rfl, _, rfl, ?_⟩
          have put : ∀ hb : Bet oo (c0 + cost), upd H3 p (.lst ((told.map oV).set to (vN (c0 + cost)))) p = some (.lst ((told.set to (some (c0 + cost))).map oV)) := fun _ => by rw [upd_same, set_oV]
          cases oo with
          | none =>
            refine iteT (iteT ?_)
            refine ⟨_, rfl, _, rfl, _, _, rfl, rfl, _, rfl, _, rfl, p, _, _, _, rfl, rfl, hP, ixn hto2, ?_⟩
            exact ⟨_, _, _, _, rfl, e.mut hpn, put bet_none, fin bet_none⟩
          | some e4 =>
            refine iteF ⟨_, rfl, _, rfl, _, _, rfl, rfl, _, rfl, _, rfl, p, _, _, _, rfl, rfl, SqL.of hP, atI_nat (at_oV hto1), _, _, rfl, rfl, _, rfl, ?_⟩
            by_cases hl : c0 + cost < e4
            · rw [decide_eq_true (show ((c0 : Int) + (cost : Int) < (e4 : Int)) by omega)]
              refine iteT ?_
              refine ⟨_, rfl, _, rfl, _, _, rfl, rfl, _, rfl, _, rfl, p, _, _, _, rfl, rfl, hP, ixn hto2, ?_⟩
              exact ⟨_, _, _, _, rfl, e.mut hpn, put (bet_some.mpr hl), fin (bet_some.mpr hl)⟩
            · rw [decide_eq_false (show ¬ ((c0 : Int) + (cost : Int) < (e4 : Int)) by omega)]
              exact iteF ⟨told, _, _, _, rfl, e, hP, stay fun z => hl (bet_some.mp z)⟩
        · rintro σ' H3 ⟨told, o6, o7, o8, rfl, e, hP, R⟩
          refine ⟨told, _, _, _, _, _, rfl, e, hP, ?_⟩
          rw [hal.len, List.take_length] at R
          refine R.imp ?_ ?_
          · rintro to c (⟨h0, c1, d, h1, h2, h3⟩ | ⟨d, h1, h2⟩)
            · exact ⟨h0, c1, d, ⟨by omega, h1.2⟩, h2, h3⟩
            · exact ⟨i, c0, d, ⟨by omega, hri⟩, (hmv to d).mp h1, h2⟩
          · rintro to c ⟨h0, c1, d, h1, h2, h3⟩
            refine ⟨c, ?_, Nat.le_refl _⟩
            by_cases z : h0 = i
            · subst z
              rw [hri] at h1
              cases h1.2
              exact .inr ⟨d, (hmv to d).mpr h2, h3⟩
            · exact .inl ⟨h0, c1, d, ⟨by omega, h1.2⟩, h2, h3⟩
    · rintro σ' H' ⟨told, o4, o5, o6, o7, o8, rfl, e, hP, R⟩
      refine ⟨_, rfl, sf, dx, _, rfl, e.k hins, wfl_no (by decide +kernel) (by decide +kernel) (by decide +kernel) (by decide +kernel) (by decide +kernel) (by decide +kernel), _, rfl, ?_⟩
      refine ⟨b, m, sts, sf, .ref p, told, Bh (Told b m sts (some x)) B, rfl, hw.f e, sd, ⟨p, _, rfl, hP, Al.ofOpts _⟩, nxt_congr hA ?_, fun p2 H2 row' e2 hp2 hH' hL => kk p2 H2 row' (e.trans e2) (e.free hp2) hH' hL⟩
      refine R.imp (fun to c ⟨h0, c0, d, h1, h2, h3⟩ => ⟨h0, c0, d, h1.2, h2, h3⟩) (fun to c ⟨h0, c0, d, h1, h2, h3⟩ => ⟨c, ⟨h0, c0, d, ⟨?_, h1⟩, h2, h3⟩, Nat.le_refl _⟩)
      rw [List.length_map]
      exact (List.getElem?_eq_some_iff.mp h1).1
end
end Fm
namespace Fm
open PySem L2
/-- is the other one taken? -/
def takes : Option Nat → Option Nat → Bool
  | none, _ => true
  | some e, some f => decide (f < e)
  | some _, none => false
def spBetter : Sp := fun vs H Q _ => ∃ (n : Nat) (v1 v2 : V) (o1 o2 : Option Nat), vs = [v1, v2] ∧ rO (rPr n) H v1 o1 ∧ rO (rPr n) H v2 o2 ∧ Q (if takes o1 o2 then v2 else v1) H
section
variable {P : Program} {w : World} {K : PySem.W.Frag} {g : Str → Option Value} {base : Heap}
end
end Fm
namespace Fm
open PySem L2
instance {n : Nat} : Mo (rPr n) := ⟨fun f ⟨u, e, h⟩ => ⟨u, e, f.tups _ _ h⟩⟩
def pD (n : Nat) : Option Nat → PyData
  | none => .none
  | some e => .tuple [.int (dC n e : Nat), .int (-((dB n e : Nat) : Int))]
theorem dp_pr {K : PySem.W.Frag} {H : Hp} {n : Nat} {v : V} {o : Option Nat} (h : rO (rPr n) H v o) : Dp K H v (pD n o) := by
  cases o with
  | none =>
    have : v = .non := h
    subst this; exact .non
  | some e =>
    obtain ⟨u, rfl, hu⟩ := h
    exact .tup (SqT.of hu) (.cons (.int _) (.cons (.int _) .nil))
theorem sh_pr (n : Nat) (o : Option Nat) : SeqAt.shaped (pD n o) = true := by
  cases o <;> rfl
theorem eqv_pr (n : Nat) (o p : Option Nat) : PyData.eqv (pD n o) (pD n p) = decide (o = p) := by
  cases o with
  | none => cases p <;> simp [pD, PyData.eqv]
  | some e =>
    cases p with
    | none => simp [pD, PyData.eqv]
    | some f =>
      simp only [pD, PyData.eqv, PyData.eqvAll]
      by_cases q : e = f
      · subst q; simp
      · rw [decide_eq_false (fun z => q (Option.some.inj z))]
        have : ¬ pL n e = pL n f := fun z => q (pL_inj z)
        unfold pL at this
        apply Decidable.byContradiction
        intro z
        apply this
        generalize dC n e = c1 at *
        generalize dC n f = c2 at *
        generalize dB n e = c3 at *
        generalize dB n f = c4 at *
        simp at z
        obtain ⟨z1, z2⟩ := z
        rw [z1, z2]

theorem takes_bet {o : Option Nat} {v : Nat} {v1 v2 : V} (h : Bet o v) : (if takes o (some v) = true then v2 else v1) = v2 := by
  cases o with
  | none => rfl
  | some e => exact if_pos (decide_eq_true (h e rfl))
theorem takes_not {n : Nat} {H : Hp} {o : Option Nat} {v : Nat} {v1 v2 : V} (h : ¬ Bet o v) (_ : rO (rPr n) H v1 o) : (if takes o (some v) = true then v2 else v1) = v1 := by
  cases o with
  | none => exact absurd bet_none h
  | some e =>
    refine if_neg ?_
    show ¬ decide (v < e) = true
    rw [decide_eq_false (fun z => h (bet_some.mpr z))]
    exact fun z => nomatch z
theorem bet_ne {o : Option Nat} {v : Nat} (h : Bet o v) : ¬ (some v = o) := by
  rintro rfl
  exact Nat.lt_irrefl _ (h v rfl)
/-- moves at codes -/
def ScN (n : Nat) (S : Nat → Nat → Nat → Prop) (h to d : Nat) : Prop := ∃ c, S h to c ∧ d = c * (n + 1)
/-- a row of pairs at p -/
def Rw (n : Nat) (H : Hp) (p : Addr) (told : CRow) : Prop := ∃ xs, H p = some (.lst xs) ∧ Al (rO (rPr n)) H xs told
theorem Rw.f {n : Nat} {H H' : Hp} {p : Addr} {told : CRow} (r : Rw n H p told) (f : Fe H H') : Rw n H' p told := by
  obtain ⟨xs, h, a⟩ := r
  exact ⟨xs, f.k h, Al.me f a⟩
theorem Rw.put {n : Nat} {H : Hp} {p : Addr} {told : CRow} {xs : List V} (h : H p = some (.lst xs)) (a : Al (rO (rPr n)) H xs told) {to : Nat} {v : V} {o : Option Nat} (q : rO (rPr n) H v o) : Rw n (upd H p (.lst (xs.set to v))) p (told.set to o) := by
  have f : Fx [p] H (upd H p (.lst (xs.set to v))) := Fx.put h (List.mem_singleton.mpr rfl) (fun _ z => nomatch z)
  exact ⟨_, upd_same, Al.set (Mo.mo f q) to (Al.mo f a)⟩
theorem Rw.ne {n : Nat} {H : Hp} {p q : Addr} {told : CRow} {o : HO} (r : Rw n H p told) (h : H q = some o) (z : ∀ xs, o ≠ .lst xs) : q ≠ p := by
  rintro rfl
  obtain ⟨xs, e, _⟩ := r
  rw [h] at e
  exact z _ (Option.some.inj e)
theorem Rw.rl {n : Nat} {H : Hp} {p : Addr} {told : CRow} (r : Rw n H p told) : rL (rO (rPr n)) H (.ref p) told := by
  obtain ⟨xs, h, a⟩ := r
  exact ⟨p, xs, rfl, h, a⟩
theorem pL_add (N e d : Nat) : (pL N (e + d * (N + 1))).map V.int = [.int ((dC N e : Nat) + (d : Nat) : Int), .int (-((dB N e : Nat) : Int))] := by
  rw [← cod_add, pL_cod (dB_le N e)]
  rfl
def CLWp (N : Nat) (sf a p : Addr) (H : Hp) (n : Nat) (S : Nat → Nat → Nat → Prop) (A0 : Nat → Nat → Prop) (M D : Nat) (k : Nat) (σ' : L2.St) (H' : Hp) : Prop :=
  ∃ (told : CRow) (fs : List Nat) (F : Addr) (o4 o5 o6 o7 o8 o9 : Option V), σ' = [some (.ref sf), some (.ref a), some (.ref p), some (.ref F), o4, o5, o6, o7, o8, o9] ∧ Fe H H' ∧ F ≠ p ∧
    Rw N H' p told ∧ H' F = some (.lst (fs.map vN)) ∧ Rlx n S A0 M D told ∧ (∀ h ∈ fs, h < n ∧ ∃ c, told[h]? = some (some c)) ∧ Rxs S told (· ∈ fs) ∧ k = 2 * Phi (M + n * D) told + (if fs = [] then 0 else 1)
def CLIp (N : Nat) (sf a p F G : Addr) (H : Hp) (n : Nat) (S : Nat → Nat → Nat → Prop) (A0 : Nat → Nat → Prop) (M D : Nat) (fs : List Nat) (i h c ph : Nat) (mv : List (Nat × Nat × Unit)) (j : Nat) (σ' : L2.St) (H2 : Hp) : Prop :=
  ∃ (told' : CRow) (ks : List Nat) (o6 o7 o8 o9 : Option V), σ' = [some (.ref sf), some (.ref a), some (.ref p), some (.ref F), some (.ref G), some (vN h), o6, o7, o8, o9] ∧ Fe H H2 ∧
    Rw N H2 p told' ∧ H2 F = some (.lst (fs.map vN)) ∧ H2 G = some (.dK (tks kN ks)) ∧ ks.Nodup ∧ Rlx n S A0 M D told' ∧ (∀ h ∈ fs, h < n ∧ ∃ c, told'[h]? = some (some c)) ∧
    (∀ h ∈ ks, h < n ∧ ∃ c, told'[h]? = some (some c)) ∧ told'[h]? = some (some c) ∧ Rxs S told' (fun h' => h' ∈ fs.drop (i + 1) ∨ h' ∈ ks ∨ h' = h) ∧ (∀ to d, (to, d, ()) ∈ mv.take j → Rx told' h to (d * (N + 1))) ∧
    Phi (M + n * D) told' ≤ ph ∧ (ks ≠ [] → Phi (M + n * D) told' < ph)
/-- what a def that returns a row of pairs promises -/
def RowP (N : Nat) (H : Hp) (n : Nat) (A : Nat → Nat → Prop) (Q : VK) : Prop := ∀ (p : Addr) (H' : Hp) (row' : CRow), Fe H H' → H p = none → Rw N H' p row' → LRow n A row' → Q (.ref p) H'
def spClosedP (C : Addr) : Sp := fun vs H Q _ => ∃ (N : Nat) (b : Book) (m : Mach) (sts : List Stg) (sf : Addr) (v : V) (row : CRow) (A : Nat → Nat → Prop), vs = [.ref sf, v] ∧ Wb C b m sts H sf ∧ Std b m sts ∧ rL (rO (rPr N)) H v row ∧ LRow sts.length A row ∧
  RowP N H sts.length (Cl (ScN N (Told b m sts none)) A) Q
def spBehindP (C : Addr) : Sp := fun vs H Q _ => ∃ (N : Nat) (b : Book) (m : Mach) (sts : List Stg) (sf : Addr) (v : V) (row : CRow) (A : Nat → Nat → Prop) (x : Nat), vs = [.ref sf, v, .str ⟨#[x]⟩] ∧ Wb C b m sts H sf ∧ Std b m sts ∧ rL (rO (rPr N)) H v row ∧ LRow sts.length A row ∧ x ∈ b.1 ∧
  RowP N H sts.length (Bh (ScN N (Told b m sts (some x))) A) Q
section
variable {P : Program} {w : World} {K : PySem.W.Frag} {g : Str → Option Value} {base : Heap}
end
end Fm
namespace Fm
open PySem L2
theorem set_self {α : Type} : ∀ {l : List α} {i : Nat} {x : α}, l[i]? = some x → l.set i x = l
  | [], i, x, h => by cases i <;> cases h
  | a :: l, 0, x, h => by cases h; rfl
  | a :: l, i + 1, x, h => by rw [List.set_cons_succ, set_self (l := l) h]
theorem nxp_congr {N : Nat} {b : Book} {m : Mach} {sts : List Stg} {n : Nat} {A : Nat → Nat → Prop} {x : Nat} {row : CRow} (h : LRow n A row) {told : CRow} (L : LRow n (Bh (ScN N (Told b m sts (some x))) fun h c => row[h]? = some (some c)) told) : LRow n (Bh (ScN N (Told b m sts (some x))) A) told :=
  L.imp (fun to c ⟨h0, c0, d, h1, h2, h3⟩ => ⟨h0, c0, d, h.snd h0 c0 h1, h2, h3⟩) (fun to c ⟨h0, c0, d, h1, h2, h3⟩ => by
    obtain ⟨c', h4, h5⟩ := h.low h0 c0 h1
    exact ⟨c' + d, ⟨h0, c', d, h4, h2, rfl⟩, by omega⟩)
def EndS (m : Mach) (s : Stg) : Prop := s.2 = [] ∧ s.1 ∈ m.2.1
instance (m : Mach) (s : Stg) : Decidable (EndS m s) := inferInstanceAs (Decidable (_ ∧ _))
def endH (m : Mach) (sts : List Stg) (i : Nat) : List Nat := (List.range i).filter fun h => match sts[h]? with
  | some s => decide (EndS m s)
  | none => false
theorem endH_succ {m : Mach} {sts : List Stg} {i : Nat} {s : Stg} (h : sts[i]? = some s) : endH m sts (i + 1) = endH m sts i ++ (if EndS m s then [i] else []) := by
  unfold endH
  rw [List.range_succ, List.filter_append]
  refine congrArg (fun z => List.filter _ (List.range i) ++ z) ?_
  rw [List.filter_cons, h]
  by_cases q : EndS m s
  · rw [if_pos (decide_eq_true q), if_pos q]; rfl
  · rw [if_neg (fun z => q (of_decide_eq_true z)), if_neg q]; rfl
theorem endH_mem {m : Mach} {sts : List Stg} {h : Nat} : h ∈ endH m sts sts.length ↔ ∃ s, sts[h]? = some s ∧ EndS m s := by
  unfold endH
  rw [List.mem_filter, List.mem_range]
  constructor
  · rintro ⟨h1, h2⟩
    rw [List.getElem?_eq_getElem h1] at h2
    exact ⟨_, List.getElem?_eq_getElem h1, of_decide_eq_true h2⟩
  · rintro ⟨s, h1, h2⟩
    refine ⟨(List.getElem?_eq_some_iff.mp h1).1, ?_⟩
    rw [h1]
    exact decide_eq_true h2
theorem endH_len (m : Mach) (sts : List Stg) (i : Nat) : (endH m sts i).length ≤ i := by
  unfold endH
  exact Nat.le_trans (List.length_filter_le _ _) (by rw [List.length_range]; exact Nat.le_refl _)
def spIsEnd (C : Addr) : Sp := fun vs H Q _ => ∃ (b : Book) (m : Mach) (sts : List Stg) (sf : Addr) (h : Nat) (s : Stg), vs = [.ref sf, vN h] ∧ Wb C b m sts H sf ∧ Std b m sts ∧ sts[h]? = some s ∧ Q (.bl (decide (EndS m s))) H
def spEnds (C : Addr) : Sp := fun vs H Q _ => ∃ (b : Book) (m : Mach) (sts : List Stg) (sf : Addr), vs = [.ref sf] ∧ Wb C b m sts H sf ∧ Std b m sts ∧ ∀ (p : Addr) (H' : Hp), Fe H H' → H p = none → H' p = some (.lst ((endH m sts sts.length).map vN)) → Q (.ref p) H'
section
variable {P : Program} {w : World} {K : PySem.W.Frag} {g : Str → Option Value} {base : Heap}
theorem ok_MoveWeb_is_end (T : Txt K g) : FnOk P w K g base CX0 1 T.d_MoveWeb_is_end.f T.d_MoveWeb_is_end.fd P_MoveWeb_is_end (spIsEnd T.c_MoveWeb) := by
  refine T.d_MoveWeb_is_end.F.ok sc_MoveWeb_is_end (fun vs H Q E h => ?_) (fun cdv A outer s H vs Q E hr h => ?_)
  · obtain ⟨_, _, _, _, _, _, rfl, _⟩ := h
    rfl
  · obtain ⟨b, m, sts, sf, h, s0, rfl, hw, sd, hs, kk⟩ := h
    have hu := hu_of hr
    refine ⟨_, (pss_cons (ps_asg (pe_ix (kx_list (K := K) rfl) (ke_fld (K := K) rfl (pv 0) rfl) (pv 1) (fun _ _ => rfl)) (kg_tup (K := K) 2 rfl rfl (pgs_cons (pg_name (i := 2) sc_MoveWeb_is_end.nd rfl (by first | exact Or.inl rfl | exact Or.inr rfl)) (pgs_cons (pg_name (i := 3) sc_MoveWeb_is_end.nd rfl (by first | exact Or.inl rfl | exact Or.inr rfl)) pgs_nil))))
    (pss_one (ps_ret (pe_and (pe_cmpR op_eq (pv 3) pe_str (nomark _)) (pe_one (pe_cmpR (ko_in (K := K) rfl) (pv 2) (pe_ix (kx_tup (K := K) rfl) (ke_fld (K := K) rfl (pv 0) rfl) pe_int (fun _ _ => rfl)) (by rfl))))))), ?_⟩
    obtain ⟨H0, L, dx, vb, vm, as, ss, ah, rd, W, Rww⟩ := id hw
    obtain ⟨p0, hp0, hins⟩ := W.ins
    obtain ⟨x, hx, u, v1, v2, rfl, hu1, rfl, rfl⟩ := W.hx.at hs
    refine ⟨_, rfl, sf, _, dx, _, _, rfl, hins, T.cl_MoveWeb, T.na_MoveWeb_standings, wfl_s, _, rfl, as, _, _, .ref u, rfl, rfl, SqL.of W.hs, atI_nat hx, ?_⟩
    refine ⟨u, _, rfl, SqT.of hu1, rfl, _, _, rfl, _, _, rfl, rfl, ?_⟩
    refine ⟨_, rfl, rfl, _, rfl, ?_⟩
    obtain ⟨ma, vst, ven, vsp, rfl, hma, rfl, ⟨ea, es, rfl, hea, hes⟩, hsp⟩ := id W.hm
    have hen := hes.nats
    subst hen
    rw [str_nil]
    obtain ⟨q0, r0⟩ := s0
    cases r0 with
    | nil =>
      rw [decide_eq_true rfl]
      refine iteT ⟨_, rfl, _, rfl, sf, _, dx, _, _, rfl, hins, T.cl_MoveWeb, T.na_MoveWeb_machine, wfl_m, ma, _, _, _, rfl, rfl, SqT.of hma, rfl, ea, _, rfl, .inr (SqT.of hea), rfl, flat_nats _, ?_⟩
      have einv : (if false = true then !inV (vN q0) (m.2.1.map vN) else inV (vN q0) (m.2.1.map vN)) = decide (EndS m (q0, [])) := (inV_nats q0 _).trans (decide_eq_decide.mpr ⟨fun h => ⟨rfl, h⟩, fun h => h.2⟩)
      rw [← einv] at kk
      exact kk
    | cons x r =>
      rw [decide_eq_false (fun z => by injection z with z; exact nomatch str_inj z)]
      refine iteF ?_
      have : decide (EndS m (q0, x :: r)) = false := decide_eq_false fun z => nomatch z.1
      rw [this] at kk
      exact kk
theorem ok_MoveWeb_ends (T : Txt K g) : FnOk P w K g base CX0 2 T.d_MoveWeb_ends.f T.d_MoveWeb_ends.fd P_MoveWeb_ends (spEnds T.c_MoveWeb) := by
  refine T.d_MoveWeb_ends.F.ok sc_MoveWeb_ends (fun vs H Q E h => ?_) (fun cdv A outer s H vs Q E hr h => ?_)
  · obtain ⟨_, _, _, _, rfl, _⟩ := h
    rfl
  · obtain ⟨b, m, sts, sf, rfl, hw, sd, kk⟩ := h
    have hu := hu_of hr
    refine ⟨_, (pss_one (ps_ret (pe_lc (own := [("home", 1)]) rfl sc_MoveWeb_ends.nd (pi_range1 rfl T.z_range (pa_cons (pe_callB (kc_len (K := K) rfl) (by rfl) T.z_len PySem.boot_len (pa_cons (ke_fld (K := K) rfl (pv 0) rfl) pa_nil)) pa_nil)) (blkOk_by (N := N_MoveWeb_ends) (sc := defScope s_MoveWeb_ends) (by decide +kernel)) (fun _ _ _ _ _ => by exact (pg_name (i := 1) sc_MoveWeb_ends.nd rfl (by first | exact Or.inl rfl | exact Or.inr rfl))) (fun _ _ _ _ _ => by exact pts_one (pt_val (pe_meth (pv 0) T.cl_MoveWeb T.d_MoveWeb_is_end.m (ok_MoveWeb_is_end T) (hr.mono (by decide)) T.d_MoveWeb_is_end.b .nil pass0 (pa_cons (pv 1) pa_nil)))) (fun _ _ _ _ _ => by exact (pv 1))))), ?_⟩
    obtain ⟨H0, L, dx, vb, vm, as, ss, ah, rd, W, Rww⟩ := id hw
    obtain ⟨p0, hp0, hins⟩ := W.ins
    have hsl := W.hx.len
    have hfew := sd.few
    refine ⟨_, rfl, sf, _, dx, _, _, rfl, hins, T.cl_MoveWeb, T.na_MoveWeb_standings, wfl_s, as, ss, rfl, .inl (SqL.of W.hs), _, rfl, by omega, by omega, fun D hD => ?_⟩
    have hcn : ((ss.length : Nat) : Int).toNat = sts.length := by omega
    rw [hcn]
    refine lc_range (fun i H' => Cmp rN H D (endH m sts i) H') (Cmp.start hD) ?_ ?_
    · intro i H' hi c
      have hs1 : sts[i]? = some sts[i] := List.getElem?_eq_getElem hi
      have hw' := hw.f c.fe
      obtain ⟨dx5, vb5, vm5, as5, ah5, p05, rd5, ss5, hins5, _⟩ := hw'.ins
      rw [endH_succ hs1]
      have hel := endH_len m sts i
      refine ⟨rfl, _, rfl, sf, dx5, _, rfl, hins5, wfl_no (by decide +kernel) (by decide +kernel) (by decide +kernel) (by decide +kernel) (by decide +kernel) (by decide +kernel), _, rfl, b, m, sts, sf, i, sts[i], by rw [Int.zero_add]; rfl, hw', sd, hs1, _, rfl, ?_⟩
      by_cases q : EndS m sts[i]
      · rw [decide_eq_true q, if_pos q]
        exact iteT ⟨_, rfl, c.add (x := i) (by omega) (Fx.refl _ _) (show V.int _ = V.int _ by rw [Int.zero_add])⟩
      · rw [decide_eq_false q, if_neg q, List.append_nil]
        exact iteF c
    · intro H1 c
      obtain ⟨_, xs0, eF, hFx, hFl⟩ := c.rl
      cases eF
      have hfn := hFl.nats
      subst hfn
      exact kk D H1 c.fe hD hFx
end
end Fm
namespace Fm
open PySem L2
/-- what is paid to a standing behind the text t -/
inductive Rs (b : Book) (m : Mach) : List Nat → Stg → Nat → Prop
  | beg : Rs b m [] (0, []) 0
  | sil {t : List Nat} {s s' : Stg} {c d : Nat} : Rs b m t s c → Sil b m s s' d → Rs b m t s' (c + d)
  | rea {t : List Nat} {s s' : Stg} {c d x : Nat} : Rs b m t s c → Rea b m x s s' d → Rs b m (t ++ [x]) s' (c + d)
/-- a standing that there is -/
def StOk (b : Book) (m : Mach) (s : Stg) : Prop := s.1 < m.1 ∧ Rest b s.2
theorem rest_tail {b : Book} {x : Nat} {r : List Nat} (h : Rest b (x :: r)) : Rest b r := by
  rcases h with h | ⟨e, k, h1, h2, h3, h4⟩
  · cases h
  · by_cases q : k + 1 < e.1.length
    · refine .inr ⟨e, k + 1, h1, by omega, q, ?_⟩
      have := congrArg List.tail h4
      rw [List.tail_drop] at this
      exact this
    · have hl := congrArg List.length h4
      rw [List.length_drop, List.length_cons] at hl
      have : r.length = 0 := by omega
      exact .inl (List.eq_nil_of_length_eq_zero this)
theorem rest_edit {b : Book} {x c : Nat} {rd wr : List Nat} (h : ((x :: rd, wr, c) : List Nat × List Nat × Nat) ∈ b.2) : Rest b rd := by
  cases rd with
  | nil => exact .inl rfl
  | cons y r => exact .inr ⟨_, 1, h, Nat.le_refl _, by simp, rfl⟩
theorem mv_stok {b : Book} {m : Mach} (ok : MOk m) {k : Option Nat} {s s' : Stg} {c : Nat} (h : StOk b m s) (mv : Mv b m k s s' c) : StOk b m s' := by
  cases k with
  | none =>
    obtain ⟨_, h2, wr, h3, h4⟩ := mv
    exact ⟨lead_em_lt ok h.1 h4, .inl h2⟩
  | some x =>
    rcases mv with ⟨r, h1, rfl, _⟩ | ⟨_, h2, h3, _⟩ | ⟨_, rd, wr, h2, h3, h4⟩
    · refine ⟨h.1, rest_tail (x := x) ?_⟩
      rw [← h1]; exact h.2
    · exact ⟨(ok.st _ h3).2, .inl h2⟩
    · exact ⟨lead_em_lt ok h.1 h4, h3 ▸ rest_edit h2⟩
theorem rs_stok {b : Book} {m : Mach} (ok : MOk m) {t : List Nat} {s : Stg} {c : Nat} (h : Rs b m t s c) : StOk b m s := by
  induction h with
  | beg => exact ⟨ok.pos, .inl rfl⟩
  | sil _ mv ih => exact mv_stok ok (k := none) ih mv
  | rea _ mv ih => exact mv_stok ok (k := some _) ih mv
theorem Rc.snoc (b : Book) (m : Mach) (sts : List Stg) (t : List Nat) (x : Nat) : Rc b m sts (t ++ [x]) = nxt b m sts (Rc b m sts t) x := by
  unfold Rc
  rw [List.foldl_append]; rfl
theorem told_at {b : Book} {m : Mach} {sts : List Stg} (o : SOk b m sts) {k : Option Nat} {h to c : Nat} {s : Stg} (e : sts[h]? = some s) : Told b m sts k h to c ↔ ∃ s', sts[to]? = some s' ∧ Mv b m k s s' c := by
  constructor
  · rintro ⟨s1, s', h1, h2, h3⟩
    rw [e] at h1; cases h1
    exact ⟨s', h2, h3⟩
  · rintro ⟨s', h2, h3⟩
    exact ⟨s, s', e, h2, h3⟩
theorem rc_rs {b : Book} {m : Mach} {sts : List Stg} (o : SOk b m sts) (t : List Nat) (h c : Nat) : Rc b m sts t h c ↔ ∃ s, sts[h]? = some s ∧ Rs b m t s c := by
  constructor
  · revert h c
    have cl : ∀ (t : List Nat) (A : Nat → Nat → Prop), (∀ h c, A h c → ∃ s, sts[h]? = some s ∧ Rs b m t s c) → ∀ h c, Cl (Told b m sts none) A h c → ∃ s, sts[h]? = some s ∧ Rs b m t s c := by
      intro t A hA h c z
      induction z with
      | beg z => exact hA _ _ z
      | step _ mv ih =>
        obtain ⟨s, h1, h2⟩ := ih
        obtain ⟨s', h3, h4⟩ := (told_at o h1).mp mv
        exact ⟨s', h3, h2.sil h4⟩
    have main : ∀ (n : Nat) (t : List Nat), t.length = n → ∀ h c, Rc b m sts t h c → ∃ s, sts[h]? = some s ∧ Rs b m t s c := by
      intro n
      induction n with
      | zero =>
        intro t ht
        cases List.eq_nil_of_length_eq_zero ht
        exact cl [] _ fun h c ⟨h1, h2⟩ => ⟨_, h1, by subst h2; exact .beg⟩
      | succ n ih =>
        intro t ht
        have hne : t ≠ [] := fun z => by rw [z] at ht; cases ht
        have e := List.dropLast_concat_getLast hne
        rw [← e, Rc.snoc]
        have hl : t.dropLast.length = n := by rw [List.length_dropLast]; omega
        refine cl _ _ fun to c ⟨h0, c0, d, h1, h2, h3⟩ => ?_
        obtain ⟨s, h4, h5⟩ := ih _ hl _ _ h1
        obtain ⟨s', h6, h7⟩ := (told_at o h4).mp h2
        subst h3
        exact ⟨s', h6, h5.rea h7⟩
    exact fun h c => main _ t rfl h c
  · rintro ⟨s, hs, r⟩
    have clr : ∀ {t : List Nat} {h to d c : Nat}, Rc b m sts t h c → Told b m sts none h to d → Rc b m sts t to (c + d) := by
      intro t h to d c z mv
      rcases List.eq_nil_or_concat t with rfl | ⟨t0, x, rfl⟩
      · exact Cl.step z mv
      · rw [List.concat_eq_append] at z ⊢
        rw [Rc.snoc] at z ⊢
        exact Cl.step z mv
    induction r generalizing h with
    | beg => exact .beg ⟨hs, rfl⟩
    | @sil t s s' c d r mv ih =>
      have q := rs_stok o.mo r
      obtain ⟨i, hi⟩ := o.idx q.1 q.2
      exact clr (ih i hi) ((told_at o hi).mpr ⟨_, hs, mv⟩)
    | @rea t s s' c d x r mv ih =>
      have q := rs_stok o.mo r
      obtain ⟨i, hi⟩ := o.idx q.1 q.2
      rw [Rc.snoc]
      exact .beg ⟨i, c, d, ih i hi, (told_at o hi).mpr ⟨_, hs, mv⟩, rfl⟩
/-- what may still become of a text -/
def Hope (b : Book) (m : Mach) (t : List Nat) (c : Nat) : Prop := ∃ s, Live m s.1 ∧ Rs b m t s c
noncomputable def hopL (b : Book) (m : Mach) (t : List Nat) : List Nat := if least (Hope b m t) = none then [] else b.1.filter fun x => decide (least (Hope b m (t ++ [x])) = least (Hope b m t))
def spRowHope (C : Addr) : Sp := fun vs H Q _ => ∃ (b : Book) (m : Mach) (sts : List Stg) (sf : Addr) (v1 v2 : V) (fl : List Bool) (row : CRow) (A : Nat → Nat → Prop), vs = [.ref sf, v1, v2] ∧ Wb C b m sts H sf ∧ Std b m sts ∧ rL rB H v1 fl ∧ fl.length = m.1 ∧ (∀ n, fl[n]? = some true ↔ Live m n) ∧
  rL (rO rN) H v2 row ∧ LRow sts.length A row ∧ ∀ H', Fe H H' → Q (oV (least fun c => ∃ h s, sts[h]? = some s ∧ Live m s.1 ∧ A h c)) H'
def spHopeCost : Sp := fun vs H Q _ => ∃ (b : Book) (m : Mach) (t : List Nat) (v1 v2 : V), vs = [v1, v2, .str ⟨t.toArray⟩] ∧ rBook H v1 b ∧ rMach H v2 m ∧ POk b m ∧ (∀ x ∈ t, x ∈ b.1) ∧ ∀ H', Fe H H' → Q (oV (least (Hope b m t))) H'
def spHopefulLetters : Sp := fun vs H Q _ => ∃ (b : Book) (m : Mach) (t : List Nat) (v1 v2 : V), vs = [v1, v2, .str ⟨t.toArray⟩] ∧ rBook H v1 b ∧ rMach H v2 m ∧ POk b m ∧ (∀ x ∈ t, x ∈ b.1) ∧ ∀ H', Fe H H' → Q (.str ⟨(hopL b m t).toArray⟩) H'
def somes (l : CRow) : List Nat := l.filterMap id
section
variable {P : Program} {w : World} {K : PySem.W.Frag} {g : Str → Option Value} {base : Heap}
theorem ok_least_of (T : Txt K g) : FnOk P w K g base CX0 1 T.d_least_of.f T.d_least_of.fd P_least_of spLeastOf := by
  refine T.d_least_of.F.ok sc_least_of (fun vs H Q E h => ?_) (fun cdv A outer s H vs Q E hr h => ?_)
  · obtain ⟨_, _, rfl, _⟩ := h
    rfl
  · obtain ⟨v, l, rfl, hl, hsz, kk⟩ := h
    have hu := hu_of hr
    refine ⟨_, (pss_cons (ps_setLc (i := 1) (own := [("number", 2)]) rfl sc_least_of.nd rfl rfl (sw_true rfl rfl rfl (by decide +kernel)) (ki_list (K := K) rfl (pv 0)) (blkOk_by (N := N_least_of) (sc := defScope s_least_of) (by decide +kernel)) (fun _ _ _ _ _ => by exact (pg_name (i := 2) sc_least_of.nd rfl (by first | exact Or.inl rfl | exact Or.inr rfl))) (fun _ _ _ _ _ => by exact pts_one (pt_cmpR op_notN (pv 2) pe_non (nomark _))) (fun _ _ _ _ _ => by exact (pv 2)))
    (pss_one (ps_ret (pe_ifExp (kt_truth (K := K) rfl (pv 1)) (pe_callB (kc_min (K := K) rfl rfl) (by rfl) T.z_min (by decide +kernel) (pa_cons (pv 1) pa_nil)) pe_non)))), ?_⟩
    obtain ⟨a, xs, rfl, ha, hxs⟩ := id hl
    have hxo := hxs.opts
    subst hxo
    have hsome : ∀ i (hi : i < l.length), somes (l.take (i + 1)) = somes (l.take i) ++ (match l[i] with | none => [] | some c => [c]) := fun i hi => by
      unfold somes
      rw [List.take_add_one, List.getElem?_eq_getElem hi, List.filterMap_append]
      refine congrArg (fun z => _ ++ z) ?_
      show List.filterMap id [l[i]] = _
      cases l[i] <;> rfl
    refine ⟨_, rfl, a, rfl, ⟨_, SqL.of ha⟩, fun F hF => lc_list (xs := l.map oV) (fun i H' => Cmp rN H F (somes (l.take i)) H') (Cmp.start hF) (fun i H' hi c => SqL.of (c.fe.k ha)) (fun i x H' hx c => ?_) (fun H1 c => ?_)⟩
    · have hi : i < l.length := by
        have := (List.getElem?_eq_some_iff.mp hx).1
        rwa [List.length_map] at this
      rw [List.getElem?_map, List.getElem?_eq_getElem hi] at hx
      cases hx
      rw [hsome i hi]
      have hfl : (somes (l.take i)).length < 1000000 := by
        have h1 := List.length_filterMap_le (id : Option Nat → Option Nat) (l.take i)
        have h2 := List.length_take_le i l
        unfold somes
        omega
      cases hc : l[i] with
      | none => exact ⟨rfl, _, rfl, rfl, _, rfl, iteF (by show Cmp rN H F (_ ++ []) H'; rw [List.append_nil]; exact c)⟩
      | some d =>
        refine ⟨rfl, _, rfl, rfl, _, rfl, iteT ⟨_, rfl, ?_⟩⟩
        exact c.add hfl (Fx.refl _ _) (show rN _ (vN d) d from rfl)
    · rw [List.length_map, List.take_length] at c
      obtain ⟨_, xs0, eF, hFx, hFl⟩ := c.rl
      cases eF
      have hfn := hFl.nats
      subst hfn
      refine ⟨_, rfl, _, .inl ⟨_, SqL.of hFx, rfl⟩, ?_⟩
      have hmem : ∀ c, c ∈ somes l ↔ some c ∈ l := fun c => by
        unfold somes
        rw [List.mem_filterMap]
        exact ⟨fun ⟨o, h1, h2⟩ => by cases o with | none => cases h2 | some d => cases h2; exact h1, fun h => ⟨_, h, rfl⟩⟩
      cases hs : somes l with
      | nil =>
        refine iteF ?_
        have := kk H1 c.fe
        rw [least_eq (o := none) (fun c hc => by rw [← hmem c, hs] at hc; exact nomatch hc)] at this
        exact this
      | cons d0 ds =>
        refine iteT ⟨_, rfl, F, (somes l).map (fun n : Nat => (n : Int)), rfl, by rw [List.map_map]; exact SqL.of hFx, by rw [hs]; exact Nat.succ_pos _, fun mn h1 h2 => ?_⟩
        obtain ⟨d, hd, rfl⟩ := List.mem_map.mp h1
        have := kk H1 c.fe
        rw [least_eq (o := some d) ⟨(hmem d).mp hd, fun e he => ?_⟩] at this
        · exact this
        · have := h2 e (List.mem_map.mpr ⟨e, (hmem e).mpr he, rfl⟩)
          omega
end
end Fm
/-! the least cost at an end; rows of costs, told -/
namespace Fm
open PySem L2
/-- what mending a text costs -/
def Mend (b : Book) (m : Mach) (t : List Nat) (c : Nat) : Prop := ∃ q, q ∈ m.2.1 ∧ Rs b m t (q, []) c
/-- the rests, sorted -/
structure RsOf (b : Book) (rs : List (List Nat)) : Prop where
  nd : rs.Nodup
  so : PyProof.Rows.sortedS (rs.map tS) = true
  mem : ∀ r, r ∈ rs ↔ Rest b r
theorem RsOf.eq {b : Book} {l m : List (List Nat)} (a : RsOf b l) (c : RsOf b m) : l = m :=
  srtS_eq ((List.perm_ext_iff_of_nodup a.nd c.nd).mpr fun r => (a.mem r).trans (c.mem r).symm) a.so c.so
theorem Std.rests {b : Book} {m : Mach} {sts : List Stg} (s : Std b m sts) : ∃ rs, RsOf b rs ∧ sts = stsOf m.1 rs := by
  obtain ⟨rs, e, h⟩ := s.how
  have hp := s.ok.mo.pos
  refine ⟨rs, ⟨?_, h, fun r => ?_⟩, e⟩
  · have := s.ok.nd
    rw [e] at this
    have h2 : (rs.map fun r => (0, r)).Nodup := by
      obtain ⟨n, hn⟩ : ∃ n, m.1 = n + 1 := ⟨m.1 - 1, by omega⟩
      rw [hn] at this
      unfold stsOf at this
      rw [List.range_succ_eq_map, List.flatMap_cons] at this
      exact (List.nodup_append.mp this).1
    rw [List.nodup_iff_pairwise_ne] at h2 ⊢
    rw [List.pairwise_map] at h2
    exact h2.imp fun h z => h (by rw [z])
  · have := s.ok.mem (0, r)
    rw [e, stsOf_mem] at this
    exact ⟨fun h => (this.mp ⟨hp, h⟩).2, fun h => (this.mpr ⟨hp, h⟩).2⟩
def spLeastEnd (C : Addr) : Sp := fun vs H Q _ => ∃ (b : Book) (m : Mach) (sts : List Stg) (sf : Addr) (v : V) (row : CRow) (t : List Nat), vs = [.ref sf, v] ∧ Wb C b m sts H sf ∧ Std b m sts ∧ rL (rO rN) H v row ∧ LRow sts.length (Rc b m sts t) row ∧
  ∀ H', Fe H H' → Q (oV (least (Mend b m t))) H'
def spMend : Sp := fun vs H Q _ => ∃ (b : Book) (m : Mach) (t : List Nat) (v1 v2 : V), vs = [v1, v2, .str ⟨t.toArray⟩] ∧ rBook H v1 b ∧ rMach H v2 m ∧ POk b m ∧ (∀ x ∈ t, x ∈ b.1) ∧ ∀ H', Fe H H' → Q (oV (least (Mend b m t))) H'
def spCostRow : Sp := fun vs H Q _ => ∃ (b : Book) (m : Mach) (t : List Nat) (v1 v2 : V), vs = [v1, v2, .str ⟨t.toArray⟩] ∧ rBook H v1 b ∧ rMach H v2 m ∧ POk b m ∧ (∀ x ∈ t, x ∈ b.1) ∧
  ∀ (H' : Hp) (T : Addr) (row : CRow) (rs : List (List Nat)), Fe H H' → H' T = some (.tup (row.map oV)) → RsOf b rs → LRow (stsOf m.1 rs).length (Rc b m (stsOf m.1 rs) t) row → Std b m (stsOf m.1 rs) → Q (.ref T) H'
def spStandings : Sp := fun vs H Q _ => ∃ (b : Book) (m : Mach) (v1 v2 : V), vs = [v1, v2] ∧ rBook H v1 b ∧ rMach H v2 m ∧ POk b m ∧
  ∀ (H' : Hp) (T : Addr) (ys : List V) (rs : List (List Nat)), Fe H H' → H' T = some (.tup ys) → RsOf b rs → Al (rP rN rS) H' ys (stsOf m.1 rs) → Q (.ref T) H'
section
variable {P : Program} {w : World} {K : PySem.W.Frag} {g : Str → Option Value} {base : Heap}
theorem ok_MoveWeb_least_end (T : Txt K g) : FnOk P w K g base CX0 3 T.d_MoveWeb_least_end.f T.d_MoveWeb_least_end.fd P_MoveWeb_least_end (spLeastEnd T.c_MoveWeb) := by
  refine T.d_MoveWeb_least_end.F.ok sc_MoveWeb_least_end (fun vs H Q E h => ?_) (fun cdv A outer s H vs Q E hr h => ?_)
  · obtain ⟨_, _, _, _, _, _, _, rfl, _⟩ := h
    rfl
  · obtain ⟨b, m, sts, sf, v, row, t, rfl, hw, sd, hrow, hL, kk⟩ := h
    have hu := hu_of hr
    refine ⟨_, (pss_one (ps_ret (pe_call (ok_least_of T) (hr.mono (by decide)) rfl T.d_least_of.mg T.d_least_of.kp T.d_least_of.b .nil pass0 (pa_cons (pe_lc (own := [("home", 2)]) rfl sc_MoveWeb_least_end.nd (ki_list (K := K) rfl (pe_meth0 (pv 0) T.cl_MoveWeb T.d_MoveWeb_ends.m (ok_MoveWeb_ends T) (hr.mono (by decide)) T.d_MoveWeb_ends.b .nil pass0)) (blkOk_by (N := N_MoveWeb_least_end) (sc := defScope s_MoveWeb_least_end) (by decide +kernel)) (fun _ _ _ _ _ => by exact (pg_name (i := 2) sc_MoveWeb_least_end.nd rfl (by first | exact Or.inl rfl | exact Or.inr rfl))) (fun _ _ _ _ _ => by exact pts_nil) (fun _ _ _ _ _ => by exact (pe_ix (kx_list (K := K) rfl) (pv 1) (pv 2) (fun _ _ => rfl)))) pa_nil)))), ?_⟩
    obtain ⟨dx5, vb5, vm5, as5, ah5, p05, rd5, ss5, hins5, _⟩ := hw.ins
    obtain ⟨a, xs, rfl, ha, hxs⟩ := id hrow
    have hxo := hxs.opts
    subst hxo
    have hel := endH_len m sts sts.length
    have hfew := sd.few
    refine ⟨_, rfl, sf, dx5, _, rfl, hins5, wfl_no (by decide +kernel) (by decide +kernel) (by decide +kernel) (by decide +kernel) (by decide +kernel) (by decide +kernel), b, m, sts, sf, rfl, hw, sd, fun p7 H7 e7 hp7 hP7 => ?_⟩
    refine ⟨p7, rfl, ⟨_, SqL.of hP7⟩, fun D hD => lc_list (xs := (endH m sts sts.length).map vN) (fun k H' => Cmp (rO rN) H7 D (((endH m sts sts.length).take k).map fun h => row[h]?.getD none) H') (Cmp.start hD) (fun k H' hk c => SqL.of (c.fe.k hP7)) (fun k x H' hx c => ?_) (fun H8 c => ?_)⟩
    · obtain ⟨h, hh, hx'⟩ := (Al.ofNats (H := H') (endH m sts sts.length)).get hx
      have hx' : x = vN h := hx'
      subst hx'
      obtain ⟨s, hs, hse⟩ := endH_mem.mp (List.mem_of_getElem? hh)
      have hhl : h < sts.length := (List.getElem?_eq_some_iff.mp hs).1
      obtain ⟨o3, ho3⟩ : ∃ o3, row[h]? = some o3 := ⟨row[h]'(by rw [hL.len]; exact hhl), List.getElem?_eq_getElem (by rw [hL.len]; exact hhl)⟩
      have htk : ((endH m sts sts.length).take (k + 1)).map (fun h => row[h]?.getD none) = ((endH m sts sts.length).take k).map (fun h => row[h]?.getD none) ++ [o3] := by
        rw [List.take_add_one, hh, List.map_append]
        show _ ++ [row[h]?.getD none] = _
        rw [ho3]; rfl
      rw [htk]
      have hln : (((endH m sts sts.length).take k).map fun h => row[h]?.getD none).length < 1000000 := by
        have h2 := List.length_take_le' k (endH m sts sts.length)
        rw [List.length_map]; omega
      refine ⟨rfl, iteT (B := Cmp (rO rN) H7 D (((endH m sts sts.length).take k).map (fun h => row[h]?.getD none) ++ [o3]) H') ⟨_, rfl, _, rfl, a, _, _, _, rfl, rfl, SqL.of (c.fe.k (e7.k ha)), atI_nat (at_oV ho3), ?_⟩⟩
      exact c.add hln (Fx.refl _ _) (show rO rN _ (oV o3) o3 from by cases o3 <;> rfl)
    · rw [List.length_map, List.take_length] at c
      refine ⟨.ref D, _, rfl, c.rl, by rw [List.length_map]; omega, fun H9 e9 => ?_⟩
      have := kk H9 ((e7.trans c.fe).trans e9)
      have e : least (Mend b m t) = least fun c => some c ∈ (endH m sts sts.length).map fun h => row[h]?.getD none := by
        refine least_same (fun c ⟨q, h1, h2⟩ => ?_) (fun c hc => ?_)
        · have hk := rs_stok sd.ok.mo h2
          obtain ⟨i, hi⟩ := sd.ok.idx hk.1 hk.2
          obtain ⟨c', h3, h4⟩ := hL.low i c ((rc_rs sd.ok t i c).mpr ⟨_, hi, h2⟩)
          exact ⟨c', List.mem_map.mpr ⟨i, endH_mem.mpr ⟨_, hi, rfl, h1⟩, by rw [h3]; rfl⟩, h4⟩
        · obtain ⟨h, h1, h2⟩ := List.mem_map.mp hc
          obtain ⟨s, h3, h4, h5⟩ := endH_mem.mp h1
          have h6 : row[h]? = some (some c) := by
            cases q : row[h]? with
            | none => rw [q] at h2; cases h2
            | some o => rw [q] at h2; exact congrArg some h2
          obtain ⟨s', h7, h8⟩ := (rc_rs sd.ok t h c).mp (hL.snd h c h6)
          rw [h3] at h7; cases h7
          obtain ⟨q, r⟩ := s
          have h4 : r = [] := h4
          subst h4
          exact ⟨c, ⟨q, h5, h8⟩, Nat.le_refl _⟩
      rw [e] at this
      exact this
end
end Fm
/-! floors: what is a table of integers -/
namespace Fm
open PySem L2
/-- a cell: an integer, or something else -/
inductive rCell (H : Hp) : V → Option Int → Prop
  | int (i : Int) : rCell H (.int i) (some i)
  | non : rCell H .non none
  | bl (b : Bool) : rCell H (.bl b) none
  | str (s : Str) : rCell H (.str s) none
  | tup {a : Addr} {xs : List V} (h : H a = some (.tup xs)) : rCell H (.ref a) none
/-- a row: a tuple of cells, or a list -/
inductive rFrow (H : Hp) : V → Option (List (Option Int)) → Prop
  | tup {a : Addr} {xs : List V} {l : List (Option Int)} (h : H a = some (.tup xs)) (al : Al rCell H xs l) : rFrow H (.ref a) (some l)
  | lst {a : Addr} {xs : List V} (h : H a = some (.lst xs)) : rFrow H (.ref a) none
abbrev Thing := Option (List (Option (List (Option Int))))
inductive rThing (H : Hp) : V → Thing → Prop
  | tup {a : Addr} {xs : List V} {l : List (Option (List (Option Int)))} (h : H a = some (.tup xs)) (al : Al rFrow H xs l) : rThing H (.ref a) (some l)
  | lst {a : Addr} {xs : List V} (h : H a = some (.lst xs)) : rThing H (.ref a) none
  | non : rThing H .non none
def rowOk (many : Nat) (r : Option (List (Option Int))) : Bool := match r with
  | none => false
  | some l => decide (l.length = many) && l.all (·.isSome)
def rowsOk (many len : Nat) (t : Thing) : Bool := match t with
  | none => false
  | some l => decide (l.length = len + 1) && l.all (rowOk many)
def spWhole : Sp := fun vs H Q _ => ∃ (v : V) (c : Option Int), vs = [v] ∧ rCell H v c ∧ Q (.bl c.isSome) H
def spFloorRows : Sp := fun vs H Q _ => ∃ (many len : Nat) (v : V) (t : Thing), vs = [vN many, vN len, v] ∧ rThing H v t ∧ many ≤ 1000000 ∧ len ≤ 1000000 ∧ ∀ H', Fe H H' → Q (.bl (rowsOk many len t)) H'
section
variable {P : Program} {w : World} {K : PySem.W.Frag} {g : Str → Option Value} {base : Heap}
theorem ok_is_whole (T : Txt K g) : FnOk P w K g base CX0 1 T.d_is_whole.f T.d_is_whole.fd P_is_whole spWhole := by
  refine T.d_is_whole.F.ok sc_is_whole (fun vs H Q E h => ?_) (fun cdv A outer s H vs Q E hr h => ?_)
  · obtain ⟨_, _, rfl, _⟩ := h
    rfl
  · obtain ⟨v, c, rfl, hv, kk⟩ := h
    have hu := hu_of hr
    refine ⟨_, (pss_one (ps_ret (pe_and (pe_callB call_isi (by rfl) T.z_isinstance (by decide +kernel) (pa_cons (pv 0) (pa_cons (pe_bltn (v := .ty "int") (by rfl) T.z_int (by decide +kernel) rfl) pa_nil))) (pe_one (pe_not (pe_callB call_isi (by rfl) T.z_isinstance (by decide +kernel) (pa_cons (pv 0) (pa_cons (pe_bltn (v := .ty "bool") (by rfl) T.z_bool (by decide +kernel) rfl) pa_nil)))))))), ?_⟩
    have ii : PySem.W.kitOne K (.type "int") (.type "int") = some true := rfl
    have ib : PySem.W.kitOne K (.type "int") (.type "bool") = some false := rfl
    have bi : PySem.W.kitOne K (.type "bool") (.type "int") = some true := rfl
    have bb : PySem.W.kitOne K (.type "bool") (.type "bool") = some true := rfl
    have ni : PySem.W.kitOne K (.type "NoneType") (.type "int") = some false := rfl
    have si : PySem.W.kitOne K (.type "str") (.type "int") = some false := rfl
    have ti : PySem.W.kitOne K (.type "tuple") (.type "int") = some false := rfl
    cases hv with
    | int i => exact ⟨_, rfl, _, _, _, _, _, rfl, .ty "int", .base (TyOf.int i), ii, _, rfl, iteT ⟨_, rfl, _, _, _, _, _, rfl, .ty "bool", .base (TyOf.int i), ib, _, rfl, kk⟩⟩
    | non => exact ⟨_, rfl, _, _, _, _, _, rfl, .ty "int", .base TyOf.non, ni, _, rfl, iteF kk⟩
    | bl b => exact ⟨_, rfl, _, _, _, _, _, rfl, .ty "int", .base (TyOf.bl b), bi, _, rfl, iteT ⟨_, rfl, _, _, _, _, _, rfl, .ty "bool", .base (TyOf.bl b), bb, _, rfl, kk⟩⟩
    | str x => exact ⟨_, rfl, _, _, _, _, _, rfl, .ty "int", .base (TyOf.str x), si, _, rfl, iteF kk⟩
    | tup h => exact ⟨_, rfl, _, _, _, _, _, rfl, .ty "int", .base (TyOf.tup h), ti, _, rfl, iteF kk⟩
theorem ok_are_floor_rows (T : Txt K g) : FnOk P w K g base CX0 2 T.d_are_floor_rows.f T.d_are_floor_rows.fd P_are_floor_rows spFloorRows := by
  refine T.d_are_floor_rows.F.ok sc_are_floor_rows (fun vs H Q E h => ?_) (fun cdv A outer s H vs Q E hr h => ?_)
  · obtain ⟨_, _, _, _, rfl, _⟩ := h
    rfl
  · obtain ⟨many, len, v, t, rfl, ht, hmany, hlen, kk⟩ := h
    have hu := hu_of hr
    refine ⟨_, (pss_cons (ps_if (PW.pt (pw_or (pt_not (pt_val (pe_callB call_isi (by rfl) T.z_isinstance (by decide +kernel) (pa_cons (pv 2) (pa_cons (pe_bltn (v := .ty "tuple") (by rfl) T.z_tuple (by decide +kernel) rfl) pa_nil))))) (pw_or1 (pt_cmpR op_ne (pe_callB (kc_len (K := K) rfl) (by rfl) T.z_len PySem.boot_len (pa_cons (pv 2) pa_nil)) (pe_op op_add (pv 1) pe_int) (nomark _)))))
      (pss_one (ps_ret pe_bl))
      pss_nil)
    (pss_cons (ps_for PassesOwn.never rfl (ki_tup (K := K) rfl (pv 2)) (pg_name (i := 3) sc_are_floor_rows.nd rfl (by first | exact Or.inl rfl | exact Or.inr rfl))
      (pss_cons (ps_if (PW.pt (pw_or (pt_not (pt_val (pe_callB call_isi (by rfl) T.z_isinstance (by decide +kernel) (pa_cons (pv 3) (pa_cons (pe_bltn (v := .ty "tuple") (by rfl) T.z_tuple (by decide +kernel) rfl) pa_nil))))) (pw_or1 (pt_cmpR op_ne (pe_callB (kc_len (K := K) rfl) (by rfl) T.z_len PySem.boot_len (pa_cons (pv 3) pa_nil)) (pv 0) (nomark _)))))
        (pss_one (ps_ret pe_bl))
        pss_nil)
      (pss_one (ps_for PassesOwn.never rfl (ki_tup (K := K) rfl (pv 3)) (pg_name (i := 4) sc_are_floor_rows.nd rfl (by first | exact Or.inl rfl | exact Or.inr rfl))
        (pss_one (ps_if (pt_not (pt_val (pe_call (ok_is_whole T) (hr.mono (by decide)) rfl T.d_is_whole.mg T.d_is_whole.kp T.d_is_whole.b .nil pass0 (pa_cons (pv 4) pa_nil))))
          (pss_one (ps_ret pe_bl))
          pss_nil))))))
    (pss_one (ps_ret pe_bl)))), ?_⟩
    have tt : PySem.W.kitOne K (.type "tuple") (.type "tuple") = some true := rfl
    have lt : PySem.W.kitOne K (.type "list") (.type "tuple") = some false := rfl
    have nt : PySem.W.kitOne K (.type "NoneType") (.type "tuple") = some false := rfl
    cases ht with
    | non => exact ⟨_, rfl, _, _, _, _, _, rfl, .ty "tuple", .base TyOf.non, nt, _, rfl, iteT (iteT (kk H (Fx.refl _ _)))⟩
    | lst h => exact ⟨_, rfl, _, _, _, _, _, rfl, .ty "tuple", .base (TyOf.lst h), lt, _, rfl, iteT (iteT (kk H (Fx.refl _ _)))⟩
    | @tup a xs l h al =>
      have hl := al.len
      refine ⟨_, rfl, _, _, _, _, _, rfl, .ty "tuple", .base (TyOf.tup h), tt, _, rfl, iteF ?_⟩
      refine ⟨_, rfl, a, _, rfl, .inr (SqT.of h), _, rfl, _, _, rfl, rfl, rfl, _, rfl, ?_⟩
      have en : (!decide (V.int ((xs.length : Nat) : Int) = V.int ((len : Int) + 1))) = !decide (l.length = len + 1) := by
        congr 1
        rw [hl]
        refine Bool.eq_iff_iff.mpr ?_
        rw [decide_eq_true_eq, decide_eq_true_eq]
        constructor
        · intro z; injection z with z; omega
        · intro z; rw [z]; rfl
      rw [en]
      by_cases q : l.length = len + 1
      · rw [decide_eq_true q]
        refine iteF ?_
        refine ⟨_, rfl, a, rfl, ⟨_, SqT.of h⟩, for_tup (xs := xs) (fun i σ' H' => ∃ o3 o4 : Option V, σ' = [some (vN many), some (vN len), some (.ref a), o3, o4] ∧ Fe H H' ∧ (l.take i).all (rowOk many) = true) ⟨_, _, rfl, Fx.refl _ _, rfl⟩ (fun i σ' H' _ ⟨_, _, _, e, _⟩ => SqT.of (e.k h)) ?_ ?_⟩
        · rintro i x σ' H' hx ⟨o3, o4, rfl, e, hall⟩
          obtain ⟨r, hr, hrr⟩ := al.get hx
          have hrm := List.mem_of_getElem? hr
          have bad : rowOk many r = false → Q (.bl false) H' := fun hb => by
            have := kk H' e
            rw [show rowsOk many len (some l) = false from by
              show (decide (l.length = len + 1) && l.all (rowOk many)) = _
              rw [decide_eq_true q, Bool.true_and]
              exact List.all_eq_false.mpr ⟨r, hrm, by rw [hb]; decide⟩] at this
            exact this
          have good : rowOk many r = true → (l.take (i + 1)).all (rowOk many) = true := fun hb => by
            rw [List.take_add_one, hr, List.all_append, hall, Bool.true_and]
            show (rowOk many r && true) = true
            rw [hb]; rfl
          cases hrr with
          | lst h2 => exact ⟨_, rfl, _, _, _, _, _, rfl, .ty "tuple", .base (TyOf.lst (e.k h2)), lt, _, rfl, iteT (iteT (bad rfl))⟩
          | @tup a2 xs2 l2 h2 al2 =>
            have hl2 := al2.len
            refine ⟨_, rfl, _, _, _, _, _, rfl, .ty "tuple", .base (TyOf.tup (e.k h2)), tt, _, rfl, iteF ?_⟩
            refine ⟨_, rfl, a2, _, rfl, .inr (SqT.of (e.k h2)), _, rfl, rfl, _, rfl, ?_⟩
            have en2 : (!decide (V.int ((xs2.length : Nat) : Int) = vN many)) = !decide (l2.length = many) := by
              congr 1
              rw [hl2]
              refine Bool.eq_iff_iff.mpr ?_
              rw [decide_eq_true_eq, decide_eq_true_eq]
              constructor
              · intro z; injection z with z; omega
              · intro z; rw [z]
            rw [en2]
            by_cases q2 : l2.length = many
            · rw [decide_eq_true q2]
              refine iteF ?_
              refine ⟨_, rfl, a2, rfl, ⟨_, SqT.of (e.k h2)⟩, for_tup (xs := xs2) (fun j σ' H' => ∃ o4 : Option V, σ' = [some (vN many), some (vN len), some (.ref a), some (.ref a2), o4] ∧ Fe H H' ∧ (l2.take j).all (·.isSome) = true) ⟨_, rfl, e, rfl⟩ (fun j σ' H' _ ⟨_, _, e, _⟩ => SqT.of (e.k h2)) ?_ ?_⟩
              · clear e
                rintro j y σ' H4 hy ⟨o4, rfl, e, hall2⟩
                obtain ⟨c, hc, hcr⟩ := al2.get hy
                have hcm := List.mem_of_getElem? hc
                have hcr4 : rCell H4 y c := by
                  cases hcr with
                  | int i => exact .int i
                  | non => exact .non
                  | bl b => exact .bl b
                  | str s => exact .str s
                  | tup h => exact .tup (e.k h)
                refine ⟨_, rfl, y, c, rfl, hcr4, _, rfl, ?_⟩
                cases c with
                | none =>
                  refine iteT ?_
                  have hb : rowOk many (some l2) = false := by
                    show (decide (l2.length = many) && l2.all (·.isSome)) = false
                    rw [decide_eq_true q2, Bool.true_and]
                    exact List.all_eq_false.mpr ⟨none, hcm, by decide⟩
                  have := kk H4 e
                  rw [show rowsOk many len (some l) = false from by
                    show (decide (l.length = len + 1) && l.all (rowOk many)) = _
                    rw [decide_eq_true q, Bool.true_and]
                    exact List.all_eq_false.mpr ⟨some l2, hrm, by rw [hb]; decide⟩] at this
                  exact this
                | some i =>
                  refine iteF ⟨_, rfl, e, ?_⟩
                  rw [List.take_add_one, hc, List.all_append, hall2]; rfl
              · rintro σ' H4 ⟨o4, rfl, e, hall2⟩
                rw [hl2, List.take_length] at hall2
                refine ⟨_, _, rfl, e, good ?_⟩
                show (decide (l2.length = many) && l2.all (·.isSome)) = true
                rw [decide_eq_true q2, hall2]; rfl
            · rw [decide_eq_false q2]
              exact iteT (bad (by show (decide (l2.length = many) && _) = false; rw [decide_eq_false q2]; rfl))
        · rintro σ' H' ⟨o3, o4, rfl, e, hall⟩
          rw [hl, List.take_length] at hall
          have := kk H' e
          rw [show rowsOk many len (some l) = true from by
            show (decide (l.length = len + 1) && l.all (rowOk many)) = _
            rw [decide_eq_true q, hall]; rfl] at this
          exact this
      · rw [decide_eq_false q]
        refine iteT ?_
        have := kk H (Fx.refl _ _)
        rw [show rowsOk many len (some l) = false from by
          show (decide (l.length = len + 1) && l.all (rowOk many)) = _
          rw [decide_eq_false q]; rfl] at this
        exact this
end
end Fm
/-! zip of a tuple and a list: the library knows two lists and two tuples alone; made by p24.py after its way -/
namespace Fm
open PySem PySem.Spec PyProof.Rows L2
open PySem.Sem (wp)
section
variable {prog : Program} {w : World} {A : Around} {E : Value → Shared → Prop} {s : Shared}
theorem zipTL_next_item {z TI TO i1 i2 l1 l2 : Addr} {k1 k2 : Nat} {xs ys : Array Value} {x y a b : Value} {Q : Value → Shared → Prop} (D : ZipApart z TI TO i1 i2 l1 l2)
    (hz : IsZip s.heap z TI TO .none) (hTI : IsPair s.heap TI (.ref i1) (.ref i2)) (hTO : IsPair s.heap TO a b)
    (h1 : s.heap.IsTupleIter i1 l1 k1) (h2 : s.heap.IsListIter i2 l2 k2) (hl1 : s.heap.IsTuple l1 xs) (hl2 : s.heap.IsList l2 ys) (hx : xs[k1]? = some x) (hy : ys[k2]? = some y)
    (hQ : ∀ h', IsZip h' z TI TO (rawInt s.heap.objs.size) → IsPair h' TO x y → h'.IsTupleIter i1 l1 (k1 + 1) → h'.IsListIter i2 l2 (k2 + 1) → IsPair h' s.heap.objs.size x y → h'.objs.size = s.heap.objs.size + 1 →
      (∀ c o, c ≠ z → c ≠ TO → c ≠ i1 → c ≠ i2 → s.heap.get? c = some o → h'.get? c = some o) → Q (.ref s.heap.objs.size) { s with heap := h' }) :
    wpAny (model prog w) A (Builtin.«zip.__next__» ⟨[.ref z], []⟩) (fun fin s' => ∃ v, fin = .done (.ret v) ∧ Q v s') E s := by
  show wpAny _ _ (field (.ref z) 2 >>= _) _ _ _
  refine wpAny_bind (wpAny_field hz rfl (x := .bool false) rfl ?_)
  show wpAny _ _ (field (.ref z) 3 >>= _) _ _ _
  refine wpAny_bind (wpAny_field hz rfl (x := .ref TI) rfl ?_)
  refine wpAny_bind (wpAny_seqItems hTI rfl ?_)
  show wpAny _ _ (Builtin.SmallTypes.ownedTupleIsFree (.ref z) >>= _) _ _ _
  refine wpAny_bind ?_
  unfold Builtin.SmallTypes.ownedTupleIsFree
  refine wpAny_bind (wpAny_field hz rfl (x := .none) rfl (wpAny_pure ?_))
  simp only [if_true]
  refine wpAny_bind (wpAny_rule ?_)
  refine wpAny_bind (wpAny_field hz rfl (x := .ref TO) rfl ?_)
  refine wpAny_bind (wpAny_setField_rec hz (by simp) fun h₁ hz₁ hs₁ => ?_)
  replace hz₁ : IsZip h₁ z TI TO .ellipsis := hz₁
  refine wpAny_bind ?_
  simp only [List.zipIdx_cons, List.zipIdx_nil, List.forIn_cons, List.forIn_nil]

  refine wpAny_bind (wpAny_bind (wpAny_onRaise ?_))
  show wpAny _ _ (Builtin.SmallTypes.nextOf (.ref i1) >>= _) _ _ _
  refine wpAny_bind (RZ.nextOf_tuple_item (h1.extBut hs₁.extBut D.i1z) (hl1.extBut hs₁.extBut D.l1z) hx fun h₂ h1₂ hs₂ => wpAny_pure ?_)
  have hTO₂ : IsPair h₂ TO a b := hs₂.extBut _ _ D.TOi1 (hs₁.extBut _ _ D.TOz hTO)
  refine wpAny_bind (wpAny_seqItems hTO₂ rfl ?_)
  refine wpAny_bind (wpAny_updateSeq_pair hTO₂ fun h₃ hTO₃ hs₃ => ?_)
  replace hTO₃ : IsPair h₃ TO x b := hTO₃
  refine wpAny_bind (wpAny_letGo (wpAny_pure ?_))

  refine wpAny_bind (wpAny_bind (wpAny_onRaise ?_))
  show wpAny _ _ (Builtin.SmallTypes.nextOf (.ref i2) >>= _) _ _ _
  refine wpAny_bind (wpAny_nextOf_list_item (((h2.extBut hs₁.extBut D.i2z).extBut hs₂.extBut D.i12.symm).extBut hs₃.extBut D.TOi2.symm)
    (((hl2.extBut hs₁.extBut D.l2z).extBut hs₂.extBut D.l2i1).extBut hs₃.extBut D.l2TO) hy fun h₄ h2₄ hs₄ => wpAny_pure ?_)
  have hTO₄ : IsPair h₄ TO x b := hs₄.extBut _ _ D.TOi2 hTO₃
  refine wpAny_bind (wpAny_seqItems hTO₄ rfl ?_)
  refine wpAny_bind (wpAny_updateSeq_pair hTO₄ fun h₅ hTO₅ hs₅ => ?_)
  replace hTO₅ : IsPair h₅ TO x y := hTO₅
  refine wpAny_bind (wpAny_letGo (wpAny_pure (wpAny_pure ?_)))

  refine wpAny_bind (wpAny_seqItems hTO₅ rfl ?_)
  refine wpAny_bind (wpAny_newTuple ?_)
  have hsz : h₅.objs.size = s.heap.objs.size := by rw [hs₅.1, hs₄.1, hs₃.1, hs₂.1, hs₁.1]
  have hz₅ : IsZip h₅ z TI TO .ellipsis := hs₅.extBut _ _ D.TOz.symm (hs₄.extBut _ _ D.i2z.symm (hs₃.extBut _ _ D.TOz.symm (hs₂.extBut _ _ D.i1z.symm hz₁)))
  have hk₅ : ∀ c o, c ≠ z → c ≠ TO → c ≠ i1 → c ≠ i2 → s.heap.get? c = some o → h₅.get? c = some o := fun c o c1 c2 c3 c4 e =>
    hs₅.extBut _ _ c2 (hs₄.extBut _ _ c4 (hs₃.extBut _ _ c2 (hs₂.extBut _ _ c3 (hs₁.extBut _ _ c1 e))))
  have h1₅ : h₅.IsTupleIter i1 l1 (k1 + 1) := ((h1₂.extBut hs₃.extBut D.TOi1.symm).extBut hs₄.extBut D.i12).extBut hs₅.extBut D.TOi1.symm
  have h2₅ : h₅.IsListIter i2 l2 (k2 + 1) := h2₄.extBut hs₅.extBut D.TOi2.symm
  have hzlt : z < h₅.objs.size := Heap.lt_size hz₅
  have hTOlt : TO < h₅.objs.size := Heap.lt_size hTO₅
  have hi1lt : i1 < h₅.objs.size := by obtain ⟨_, e, _⟩ := h1₅; exact Heap.lt_size e
  have hi2lt : i2 < h₅.objs.size := by obtain ⟨_, e, _⟩ := h2₅; exact Heap.lt_size e
  show wpAny _ _ (Builtin.SmallTypes.ownedTupleHandOut (.ref z) (.ref h₅.objs.size) >>= _) _ _ _
  refine wpAny_bind ?_
  unfold Builtin.SmallTypes.ownedTupleHandOut
  have hz₆ : IsZip (h₅.push { cls := .type "tuple", data := .seq #[x, y] }) z TI TO .ellipsis := Heap.get?_push_of_some _ hz₅
  refine wpAny_bind (wpAny_setField_rec hz₆ (by simp) fun h₇ hz₇ hs₇ => ?_)
  replace hz₇ : IsZip h₇ z TI TO (rawInt h₅.objs.size) := hz₇
  refine wpAny_setField_rec hz₇ (by simp) fun h₈ hz₈ hs₈ => ?_
  replace hz₈ : IsZip h₈ z TI TO (rawInt h₅.objs.size) := hz₈
  have up : ∀ c o, c ≠ z → h₅.get? c = some o → h₈.get? c = some o := fun c o c1 e => hs₈.extBut _ _ c1 (hs₇.extBut _ _ c1 (Heap.get?_push_of_some _ e))
  have hT₈ : IsPair h₈ h₅.objs.size x y := hs₈.extBut _ _ (Nat.ne_of_gt hzlt) (hs₇.extBut _ _ (Nat.ne_of_gt hzlt) (Heap.get?_push_size _ rfl))
  have hz8 : h₈.objs.size = h₅.objs.size + 1 := by rw [hs₈.1, hs₇.1, Heap.size_push]
  rw [hsz] at hz₈ hT₈ hz8
  refine wpAny_pure ⟨_, rfl, ?_⟩
  show Q (.ref h₅.objs.size) _
  rw [hsz]
  exact hQ h₈ hz₈ (up _ _ D.TOz hTO₅) (h1₅.at fun o e => up _ o D.i1z e) (h2₅.at fun o e => up _ o D.i2z e) hT₈ hz8 fun c o c1 c2 c3 c4 e => up c o c1 (hk₅ c o c1 c2 c3 c4 e)

theorem zipTL_next_end {z TI TO i1 i2 l1 l2 : Addr} {k1 k2 : Nat} {xs ys : Array Value} {a b : Value} {Q : Fin → Shared → Prop} (hh : A.handled = none) (D : ZipApart z TI TO i1 i2 l1 l2)
    (hz : IsZip s.heap z TI TO .none) (hTI : IsPair s.heap TI (.ref i1) (.ref i2)) (hTO : IsPair s.heap TO a b)
    (h1 : s.heap.IsTupleIter i1 l1 k1) (h2 : s.heap.IsListIter i2 l2 k2) (hl1 : s.heap.IsTuple l1 xs) (hl2 : s.heap.IsList l2 ys) (hend : xs[k1]? = none ∨ ys[k2]? = none)
    (hE : ∀ h' e, (∀ c o, c ≠ z → c ≠ TO → c ≠ i1 → c ≠ i2 → s.heap.get? c = some o → h'.get? c = some o) → (∃ o, h'.get? e = some o ∧ o.cls = .type "StopIteration") → E (.ref e) { s with heap := h' }) :
    wpAny (model prog w) A (Builtin.«zip.__next__» ⟨[.ref z], []⟩) Q E s := by
  show wpAny _ _ (field (.ref z) 2 >>= _) _ _ _
  refine wpAny_bind (wpAny_field hz rfl (x := .bool false) rfl ?_)
  show wpAny _ _ (field (.ref z) 3 >>= _) _ _ _
  refine wpAny_bind (wpAny_field hz rfl (x := .ref TI) rfl ?_)
  refine wpAny_bind (wpAny_seqItems hTI rfl ?_)
  show wpAny _ _ (Builtin.SmallTypes.ownedTupleIsFree (.ref z) >>= _) _ _ _
  refine wpAny_bind ?_
  unfold Builtin.SmallTypes.ownedTupleIsFree
  refine wpAny_bind (wpAny_field hz rfl (x := .none) rfl (wpAny_pure ?_))
  simp only [if_true]
  refine wpAny_bind (wpAny_rule ?_)
  refine wpAny_bind (wpAny_field hz rfl (x := .ref TO) rfl ?_)
  refine wpAny_bind (wpAny_setField_rec hz (by simp) fun h₁ hz₁ hs₁ => ?_)
  replace hz₁ : IsZip h₁ z TI TO .ellipsis := hz₁
  refine wpAny_bind ?_
  simp only [List.zipIdx_cons, List.zipIdx_nil, List.forIn_cons, List.forIn_nil]
  refine wpAny_bind (wpAny_bind (wpAny_onRaise ?_))
  show wpAny _ _ (Builtin.SmallTypes.nextOf (.ref i1) >>= _) _ _ _
  cases hx : xs[k1]? with
  | none =>
    refine wpAny_bind (RZ.nextOf_tuple_end hh (h1.extBut hs₁.extBut D.i1z) (hl1.extBut hs₁.extBut D.l1z) hx fun h₂ e hs₂ he => ?_)
    obtain ⟨oe, hoe, hce⟩ := he
    have hz₂ : IsZip h₂ z TI TO .ellipsis := hs₂ _ _ D.i1z.symm hz₁
    have hez : e ≠ z := fun x => by subst x; rw [hz₂] at hoe; cases hoe; simp at hce
    refine wpAny_setField_rec hz₂ (by simp) fun h₃ _ hs₃ => hE h₃ e (fun c o c1 _ c3 _ x => hs₃.extBut _ _ c1 (hs₂ _ _ c3 (hs₁.extBut _ _ c1 x))) ⟨oe, hs₃.extBut _ _ hez hoe, hce⟩
  | some x =>
    have hy : ys[k2]? = none := by rcases hend with h | h; rw [hx] at h; cases h; exact h
    refine wpAny_bind (RZ.nextOf_tuple_item (h1.extBut hs₁.extBut D.i1z) (hl1.extBut hs₁.extBut D.l1z) hx fun h₂ h1₂ hs₂ => wpAny_pure ?_)
    have hTO₂ : IsPair h₂ TO a b := hs₂.extBut _ _ D.TOi1 (hs₁.extBut _ _ D.TOz hTO)
    refine wpAny_bind (wpAny_seqItems hTO₂ rfl ?_)
    refine wpAny_bind (wpAny_updateSeq_pair hTO₂ fun h₃ hTO₃ hs₃ => ?_)
    refine wpAny_bind (wpAny_letGo (wpAny_pure ?_))
    refine wpAny_bind (wpAny_bind (wpAny_onRaise ?_))
    show wpAny _ _ (Builtin.SmallTypes.nextOf (.ref i2) >>= _) _ _ _
    refine wpAny_bind (wpAny_nextOf_list_end hh (((h2.extBut hs₁.extBut D.i2z).extBut hs₂.extBut D.i12.symm).extBut hs₃.extBut D.TOi2.symm)
      (((hl2.extBut hs₁.extBut D.l2z).extBut hs₂.extBut D.l2i1).extBut hs₃.extBut D.l2TO) hy fun h₄ e hs₄ he => ?_)
    obtain ⟨oe, hoe, hce⟩ := he
    have hz₄ : IsZip h₄ z TI TO .ellipsis := hs₄ _ _ D.i2z.symm (hs₃.extBut _ _ D.TOz.symm (hs₂.extBut _ _ D.i1z.symm hz₁))
    have hez : e ≠ z := fun x => by subst x; rw [hz₄] at hoe; cases hoe; simp at hce
    refine wpAny_setField_rec hz₄ (by simp) fun h₅ _ hs₅ => hE h₅ e (fun c o c1 c2 c3 c4 x => hs₅.extBut _ _ c1 (hs₄ _ _ c4 (hs₃.extBut _ _ c2 (hs₂.extBut _ _ c3 (hs₁.extBut _ _ c1 x))))) ⟨oe, hs₅.extBut _ _ hez hoe, hce⟩

theorem pyNext_zipTL_item {z TI TO i1 i2 l1 l2 : Addr} {k1 k2 : Nat} {xs ys : Array Value} {x y a b : Value} {Q : Option Value → Shared → Prop} (D : ZipApart z TI TO i1 i2 l1 l2)
    (hz : IsZip s.heap z TI TO .none) (hTI : IsPair s.heap TI (.ref i1) (.ref i2)) (hTO : IsPair s.heap TO a b)
    (h1 : s.heap.IsTupleIter i1 l1 k1) (h2 : s.heap.IsListIter i2 l2 k2) (hl1 : s.heap.IsTuple l1 xs) (hl2 : s.heap.IsList l2 ys) (hx : xs[k1]? = some x) (hy : ys[k2]? = some y)
    (hQ : ∀ h', IsZip h' z TI TO (rawInt s.heap.objs.size) → IsPair h' TO x y → h'.IsTupleIter i1 l1 (k1 + 1) → h'.IsListIter i2 l2 (k2 + 1) → IsPair h' s.heap.objs.size x y → h'.objs.size = s.heap.objs.size + 1 →
      (∀ c o, c ≠ z → c ≠ TO → c ≠ i1 → c ≠ i2 → s.heap.get? c = some o → h'.get? c = some o) → Q (some (.ref s.heap.objs.size)) { s with heap := h' }) :
    wpAny (model prog w) A (pyNext (.ref z)) Q E s := by
  have hT : s.TypeIs (.ref z) "zip" := ⟨_, hz, rfl⟩
  unfold pyNext
  exact wpAny_bind (wpAny_attempt (wpAny_callSpecial?_slot (name := Str.ofString "__next__") hT F.slot_zip_next
    (wpAny_call_entry F.slot_zip_next hT F.entry_zip_next
      (zipTL_next_item D hz hTI hTO h1 h2 hl1 hl2 hx hy fun h' a1 a2 a3 a4 a5 a6 a7 => wpAny_pure (hQ h' a1 a2 a3 a4 a5 a6 a7)) (F.args_zip_next_1 _))))

theorem pyNext_zipTL_end {z TI TO i1 i2 l1 l2 : Addr} {k1 k2 : Nat} {xs ys : Array Value} {a b : Value} {Q : Option Value → Shared → Prop} (hh : A.handled = none) (D : ZipApart z TI TO i1 i2 l1 l2)
    (hz : IsZip s.heap z TI TO .none) (hTI : IsPair s.heap TI (.ref i1) (.ref i2)) (hTO : IsPair s.heap TO a b)
    (h1 : s.heap.IsTupleIter i1 l1 k1) (h2 : s.heap.IsListIter i2 l2 k2) (hl1 : s.heap.IsTuple l1 xs) (hl2 : s.heap.IsList l2 ys) (hend : xs[k1]? = none ∨ ys[k2]? = none)
    (hQ : ∀ h', (∀ c o, c ≠ z → c ≠ TO → c ≠ i1 → c ≠ i2 → s.heap.get? c = some o → h'.get? c = some o) → Q none { s with heap := h' }) : wpAny (model prog w) A (pyNext (.ref z)) Q E s := by
  have hT : s.TypeIs (.ref z) "zip" := ⟨_, hz, rfl⟩
  unfold pyNext
  refine wpAny_bind (wpAny_attempt (wpAny_callSpecial?_slot (name := Str.ofString "__next__") hT F.slot_zip_next
    (wpAny_call_entry F.slot_zip_next hT F.entry_zip_next (zipTL_next_end hh D hz hTI hTO h1 h2 hl1 hl2 hend fun h' e hk he => ?_) (F.args_zip_next_1 _))))
  obtain ⟨o, ho, hc⟩ := he
  refine wpAny_bind (wpAny_isInstance (T := "StopIteration") (b := true) ⟨o, ho, hc⟩ isSubtype_stop ?_)
  exact wpAny_pure (hQ _ hk)
end
abbrev zipXH1 (h : Heap) (l1 : Addr) : Heap := h.push { cls := .type "tuple_iterator", data := .fields #[.ref l1, .int 0 0] }
abbrev zipXH2 (h : Heap) (l1 l2 : Addr) : Heap := (zipXH1 h l1).push { cls := .type "list_iterator", data := .fields #[.ref l2, .int 0 0] }
abbrev zipXH3 (h : Heap) (l1 l2 : Addr) : Heap := (zipXH2 h l1 l2).push { cls := .type "tuple", data := .seq #[.ref h.objs.size, .ref (zipXH1 h l1).objs.size] }
abbrev zipXH4 (h : Heap) (l1 l2 : Addr) : Heap := (zipXH3 h l1 l2).push { cls := .type "tuple", data := .seq #[.none, .none] }
abbrev zipXH5 (h : Heap) (l1 l2 : Addr) : Heap := (zipXH4 h l1 l2).push { cls := .type "zip", data := .fields #[.none, .bool false, .bool false, .ref (zipXH2 h l1 l2).objs.size, .ref (zipXH3 h l1 l2).objs.size] }

theorem meets_zipTL_new (l1 l2 : Addr) (xs ys : Array Value) :
    Meets (Builtin.«zip.__new__» ⟨[.type "zip", .ref l1, .ref l2], []⟩) (fun _ R s => s.heap.IsTuple l1 xs ∧ s.heap.IsList l2 ys ∧
      R (.ok (.ret (.ref (zipXH4 s.heap l1 l2).objs.size))) { s with heap := zipXH5 s.heap l1 l2 }) :=
  .of_wp fun prog w A R s h => by
    obtain ⟨hp, g, d, tk, os⟩ := s; obtain ⟨hl1, hl2, h⟩ := h
    have hsub := sub_zip
    have hL1 : Heap.IsTuple (Shared.heap ⟨hp, g, d, tk, os⟩) l1 xs := hl1
    have hL2 : Heap.IsList (Shared.heap ⟨hp.push { cls := .type "tuple_iterator", data := .fields #[.ref l1, .int 0 0] }, g, d, tk, os⟩) l2 ys := Heap.IsList.push hl2 _
    wp_walk using wpAny_pyIter_tuple hL1, wpAny_pyIter_list hL2
    exact ⟨_, rfl, h⟩

section
variable {prog : Program} {w : World} {A : Around} {E : Value → Shared → Prop} {s : Shared}
theorem call_zipTL {l1 l2 : Addr} {xs ys : Array Value} {Q : Value → Shared → Prop} (hl1 : s.heap.IsTuple l1 xs) (hl2 : s.heap.IsList l2 ys)
    (h : ∀ h', IsZip h' (s.heap.objs.size + 4) (s.heap.objs.size + 2) (s.heap.objs.size + 3) .none → IsPair h' (s.heap.objs.size + 2) (.ref s.heap.objs.size) (.ref (s.heap.objs.size + 1)) →
      IsPair h' (s.heap.objs.size + 3) .none .none → h'.IsTupleIter s.heap.objs.size l1 0 → h'.IsListIter (s.heap.objs.size + 1) l2 0 → h'.objs.size = s.heap.objs.size + 5 →
      (∀ c o, s.heap.get? c = some o → h'.get? c = some o) → Q (.ref (s.heap.objs.size + 4)) { s with heap := h' }) :
    wpAny (model prog w) A (call (.type "zip") [.ref l1, .ref l2]) Q E s := by
  refine callType_new F.called_zip (by decide) (F.typeCall_zip_2 _ _) (F.newCall_zip_2 _ _) (fun obj => F.args_object_init_3 obj _ _) F.entry_zip_new
    (meets_zipTL_new l1 l2 xs ys) ⟨hl1, hl2, ?_⟩
  have z1 : (zipXH1 s.heap l1).objs.size = s.heap.objs.size + 1 := Heap.size_push ..
  have z2 : (zipXH2 s.heap l1 l2).objs.size = s.heap.objs.size + 2 := by rw [Heap.size_push, z1]
  have z3 : (zipXH3 s.heap l1 l2).objs.size = s.heap.objs.size + 3 := by rw [Heap.size_push, z2]
  have z4 : (zipXH4 s.heap l1 l2).objs.size = s.heap.objs.size + 4 := by rw [Heap.size_push, z3]
  have z5 : (zipXH5 s.heap l1 l2).objs.size = s.heap.objs.size + 5 := by rw [Heap.size_push, z4]
  have g5 : (zipXH5 s.heap l1 l2).get? (zipXH4 s.heap l1 l2).objs.size = some _ := Heap.get?_push_size _ rfl
  have g4 : (zipXH5 s.heap l1 l2).get? (zipXH3 s.heap l1 l2).objs.size = some _ := Heap.get?_push_of_some _ (Heap.get?_push_size _ rfl)
  have g3 : (zipXH5 s.heap l1 l2).get? (zipXH2 s.heap l1 l2).objs.size = some _ := Heap.get?_push_of_some _ (Heap.get?_push_of_some _ (Heap.get?_push_size _ rfl))
  have g2 : (zipXH5 s.heap l1 l2).get? (zipXH1 s.heap l1).objs.size = some _ := Heap.get?_push_of_some _ (Heap.get?_push_of_some _ (Heap.get?_push_of_some _ (Heap.get?_push_size _ rfl)))
  have g1 : (zipXH5 s.heap l1 l2).get? s.heap.objs.size = some _ := Heap.get?_push_of_some _ (Heap.get?_push_of_some _ (Heap.get?_push_of_some _ (Heap.get?_push_of_some _ (Heap.get?_push_size _ rfl))))
  show _ ∧ _
  rw [z2, z3, z4] at g5
  rw [z1, z2] at g3
  rw [z3] at g4
  rw [z1] at g2
  rw [z4]
  exact ⟨⟨_, g5, rfl⟩, h _ g5 g3 g4 ⟨_, g1, rfl, rfl⟩ ⟨_, g2, rfl, rfl⟩ z5 fun c o x =>
    Heap.get?_push_of_some _ (Heap.get?_push_of_some _ (Heap.get?_push_of_some _ (Heap.get?_push_of_some _ (Heap.get?_push_of_some _ x))))⟩
end
/-- the tuple at a and the list at b as they stand at each turn, the items in new pairs -/
def ItzTL (K : PySem.W.Frag) (a b : Addr) : It :=
  ⟨fun i H => ∃ (xs ys : List V) (x y : V), SqT K H a xs ∧ SqL K H b ys ∧ xs[i]? = some x ∧ ys[i]? = some y,
    fun i H v H' => ∃ T x y, v = .ref T ∧ H T = none ∧ H' = upd H T (.tup [x, y]) ∧ (∀ xs, SqT K H a xs → xs[i]? = some x) ∧ ∀ ys, SqL K H b ys → ys[i]? = some y,
    fun i H => ∃ xs ys : List V, SqT K H a xs ∧ SqL K H b ys ∧ (xs.length ≤ i ∨ ys.length ≤ i)⟩
theorem turn_zipTL {P : Program} {w : World} {K : PySem.W.Frag} {elts : List Expr} {kk : Nat} {tpos : Pos} {a b z TI TO i1 i2 : Addr} (D : ZipApart z TI TO i1 i2 a b) :
    Turn P w K (.Tuple elts kk tpos) (ItzTL K a b) [z, TI, TO, i1, i2] z (fun i h => IsZip h z TI TO .none ∧ IsPair h TI (.ref i1) (.ref i2) ∧ (∃ x y, IsPair h TO x y) ∧ h.IsTupleIter i1 a i ∧ h.IsListIter i2 b i) where
  mem := by simp
  obj := fun i h st c hc => by
    obtain ⟨hz, hTI, ⟨x, y, hTO⟩, ⟨o1, e1, _, d1⟩, ⟨o2, e2, _, d2⟩⟩ := st
    have e' : c = z ∨ c = TI ∨ c = TO ∨ c = i1 ∨ c = i2 := by simpa using hc
    rcases e' with q | q | q | q | q
    · rw [q]; exact ⟨_, hz, fun v q => nomatch q⟩
    · rw [q]; exact ⟨_, hTI, fun v q => nomatch q⟩
    · rw [q]; exact ⟨_, hTO, fun v q => nomatch q⟩
    · rw [q]; exact ⟨o1, e1, fun v q => by rw [d1] at q; cases q⟩
    · rw [q]; exact ⟨o2, e2, fun v q => by rw [d2] at q; cases q⟩
  keep := fun i h h' st k => by
    obtain ⟨hz, hTI, ⟨x, y, hTO⟩, h1, h2⟩ := st
    exact ⟨k z (by simp) _ hz, k TI (by simp) _ hTI, ⟨x, y, k TO (by simp) _ hTO⟩, h1.at fun o q => k i1 (by simp) o q, h2.at fun o q => k i2 (by simp) o q⟩
  item := by
    intro X hP hw hK hc i pins s σ H E I hf st hg
    subst hP hw hK
    obtain ⟨hz, hTI, ⟨x0, y0, hTO⟩, h1, h2⟩ := st
    obtain ⟨xs, ys, x, y, hqx, hqy, hx, hy⟩ := hg
    obtain ⟨its, rv, p, _⟩ := I.tuple hqx
    obtain ⟨its2, rv2, p2, _⟩ := I.list hqy
    obtain ⟨u, hu, ru⟩ := rv.get hx
    obtain ⟨u2, hu2, ru2⟩ := rv2.get hy
    have hzl : z < s.heap.objs.size := Heap.lt_size hz
    refine pyNext_zipTL_item D hz hTI hTO h1 h2 p p2.isList (x := u) (y := u2) (by simpa using hu) (by simpa using hu2) fun h' z' TO' h1' h2' hT hsz hk => ?_
    refine ⟨_, rfl, wpAny_letOwnedTupleGo_zip (s := { s with heap := h' }) z' fun h'' z'' sb => ?_⟩
    have hT2 : h''.get? s.heap.objs.size = some { cls := .type "tuple", data := .seq #[u, u2] } := (sb.2 _ (Nat.ne_of_gt hzl)).trans hT
    have new : ObjOk X.prog X.w (upd H s.heap.objs.size (.tup [x, y])) h'' s.heap.objs.size (.tup [x, y]) :=
      ⟨by show 2 ≤ sizeLine; decide, [u, u2], .cons ru (.cons ru2 .nil), ⟨_, hT2, rfl, _, rfl⟩⟩
    have I1 : Inv X pins σ (upd H s.heap.objs.size (.tup [x, y])) { s with heap := h'' } :=
      I.turnedNew (t' := s.toks) (ch := [z, TI, TO, i1, i2]) (fun c o hb q => (sb.2 c (fun q' => hb (by simp [q']))).trans (hk c o (fun q' => hb (by simp [q'])) (fun q' => hb (by simp [q'])) (fun q' => hb (by simp [q'])) (fun q' => hb (by simp [q'])) q)) hf (Nat.le_refl _) new
    refine ⟨.ref s.heap.objs.size, _, I1, rfl, ⟨_, x, y, rfl, I.hok.fresh (Nat.le_refl _), rfl, fun l hl => by rw [I.tuple_inj hl hqx]; exact hx, fun l hl => by rw [I.list_inj hl hqy]; exact hy⟩, ⟨z'', ?_, ⟨u, u2, ?_⟩, ?_, ?_⟩, fun c hcm => ?_⟩
    · exact (sb.2 _ D.TIz).trans (hk _ _ D.TIz D.TITO D.TIi1 D.TIi2 hTI)
    · exact (sb.2 _ D.TOz).trans TO'
    · exact h1'.at fun o q => (sb.2 _ D.i1z).trans q
    · exact h2'.at fun o q => (sb.2 _ D.i2z).trans q
    · have hlt : c < s.heap.objs.size := by
        have e' : c = z ∨ c = TI ∨ c = TO ∨ c = i1 ∨ c = i2 := by simpa using hcm
        rcases e' with q | q | q | q | q
        · rw [q]; exact hzl
        · rw [q]; exact Heap.lt_size hTI
        · rw [q]; exact Heap.lt_size hTO
        · rw [q]; obtain ⟨_, e1, _⟩ := h1; exact Heap.lt_size e1
        · rw [q]; obtain ⟨_, e2, _⟩ := h2; exact Heap.lt_size e2
      rw [upd_ne (Nat.ne_of_lt hlt)]
      exact (hf c hcm).1
  done := by
    intro X hP hw hK hc i pins s σ H E I hf st hg
    subst hP hw hK
    obtain ⟨hz, hTI, ⟨x0, y0, hTO⟩, h1, h2⟩ := st
    obtain ⟨xs, ys, hqx, hqy, hend⟩ := hg
    obtain ⟨its, rv, p, _⟩ := I.tuple hqx
    obtain ⟨its2, rv2, p2, _⟩ := I.list hqy
    have l1 := rv.length
    have l2 := rv2.length
    have he : its.toArray[i]? = none ∨ its2.toArray[i]? = none := by
      rcases hend with q | q
      · exact .inl (by simp; omega)
      · exact .inr (by simp; omega)
    exact pyNext_zipTL_end (I.ok.hd hc) D hz hTI hTO h1 h2 p p2.isList he fun h' hk => ⟨rfl, I.turnedL (t' := s.toks) (ch := [z, TI, TO, i1, i2]) (fun c o hb q =>
      hk c o (fun q' => hb (by simp [q'])) (fun q' => hb (by simp [q'])) (fun q' => hb (by simp [q'])) (fun q' => hb (by simp [q'])) q) hf⟩
  self := fun A i s Q E st h => wpAny_pyIter_zip st.1 h

def iZipTL (K : PySem.W.Frag) (ta : TA) : TI := fun σ H R => ta σ H fun vs H1 => ∃ a b xs ys, vs = [.ref a, .ref b] ∧ SqT K H1 a xs ∧ SqL K H1 b ys ∧ R (ItzTL K a b) H1
theorem pi_zipTL {X : Cx} {e e2 : Expr} {ta : TA} {p pos tpos : Pos} {elts : List Expr} {kk : Nat} (hg : Gl X "zip") (hm : X.mg "zip" = none) (ha : PA X [e, e2] ta)
    (hs : starEach [e, e2] X.env = (false, eval e X.env) :: starEach [e2] X.env := by rfl) (hpl : (backTo pos (starEach [e2] X.env)).any (·.1) = false := by rfl) :
    PI X (.Tuple elts kk tpos) (.Call (.Name "zip" p) [e, e2] [] pos) (iZipTL X.K ta) := by
  refine ⟨fun pins s σ H R I h => ?_⟩
  refine Call_ (ld_blt I hg hm PyProof.Rows.boot_zip (PyProof.Rows.callWith_type1 (thn (ha.run pos pins s σ H _ I h) fun us s1 ⟨vs, H1, I1, r1, q1⟩ => ?_) hs hpl))
  obtain ⟨a, b, xs, ys, ex, q1⟩ := q1
  subst ex
  cases r1 with
  | cons r rr =>
    cases rr with
    | cons r' rr =>
      cases rr
      cases r
      cases r'
      have fresh5 : ∀ c, c ∈ [s1.heap.objs.size + 4, s1.heap.objs.size + 2, s1.heap.objs.size + 3, s1.heap.objs.size, s1.heap.objs.size + 1] → FpOk X pins H1 c := fun c hcm => by
        have e' : c = s1.heap.objs.size + 4 ∨ c = s1.heap.objs.size + 2 ∨ c = s1.heap.objs.size + 3 ∨ c = s1.heap.objs.size ∨ c = s1.heap.objs.size + 1 := by simpa using hcm
        have hle : s1.heap.objs.size ≤ c := by
          rcases e' with z | z | z | z | z
          · rw [z]; exact Nat.le_add_right _ _
          · rw [z]; exact Nat.le_add_right _ _
          · rw [z]; exact Nat.le_add_right _ _
          · rw [z]; exact Nat.le_refl _
          · rw [z]; exact Nat.le_add_right _ _
        exact I1.fpOk hle (I1.hok.fresh hle)
      obtain ⟨hqx, hqy, q⟩ := q1
      obtain ⟨its, rv, p1, _⟩ := I1.tuple hqx
      obtain ⟨its2, rv2, p2, _⟩ := I1.list hqy
      obtain ⟨o1, ho1, _⟩ := id p1
      refine call_zipTL (show s1.heap.IsTuple a its.toArray from p1) p2.isList fun h' hz hTI hTO h1 h2 hsz hk => wpAny_pyIter_zip hz ?_
      have I2 : Inv X pins σ H1 { s1 with heap := h' } := I1.kept (t' := s1.toks) hk
      exact ⟨s1.heap.objs.size + 4, [s1.heap.objs.size + 4, s1.heap.objs.size + 2, s1.heap.objs.size + 3, s1.heap.objs.size, s1.heap.objs.size + 1], _, _, H1, rfl, I2, turn_zipTL (PySem.W.ktu_apart s1.heap.objs.size a b (Heap.lt_size ho1) p2.lt), ⟨hz, hTI, ⟨_, _, hTO⟩, h1, h2⟩, fresh5, q⟩
section
variable {P : Program} {w : World} {K : PySem.W.Frag}
theorem ki_zipTL {X : Cx} {e e2 : Expr} {ta : TA} {p pos tpos : Pos} {elts : List Expr} {kk : Nat} (h : X.K = K) (hg : Gl X "zip") (hm : X.mg "zip" = none) (ha : PA X [e, e2] ta)
    (hs : starEach [e, e2] X.env = (false, eval e X.env) :: starEach [e2] X.env := by rfl) (hpl : (backTo pos (starEach [e2] X.env)).any (·.1) = false := by rfl) :
    PI X (.Tuple elts kk tpos) (.Call (.Name "zip" p) [e, e2] [] pos) (iZipTL K ta) := by
  subst h; exact pi_zipTL hg hm ha hs hpl
theorem zipTL_go {K : PySem.W.Frag} {a b : Addr} {xs ys : List V} {H : Hp} {i : Nat} (hx : H a = some (.tup xs)) (hy : H b = some (.lst ys)) (h1 : i < xs.length) (h2 : i < ys.length) : (ItzTL K a b).go i H :=
  ⟨xs, ys, xs[i], ys[i], SqT.of hx, SqL.of hy, List.getElem?_eq_getElem h1, List.getElem?_eq_getElem h2⟩
theorem zipTL_stop {K : PySem.W.Frag} {a b : Addr} {xs ys : List V} {H : Hp} {i : Nat} (hx : H a = some (.tup xs)) (hy : H b = some (.lst ys)) (h1 : xs.length ≤ i) : (ItzTL K a b).stop i H := ⟨xs, ys, SqT.of hx, SqL.of hy, .inl h1⟩
theorem zipTL_yld {K : PySem.W.Frag} {a b : Addr} {xs ys : List V} {H H' : Hp} {i : Nat} {v : V} (hx : H a = some (.tup xs)) (hy : H b = some (.lst ys)) (h : (ItzTL K a b).yld i H v H') :
    ∃ T x y, v = .ref T ∧ H T = none ∧ H' = upd H T (.tup [x, y]) ∧ xs[i]? = some x ∧ ys[i]? = some y := by
  obtain ⟨T, x, y, e1, e2, e3, h1, h2⟩ := h
  exact ⟨T, x, y, e1, e2, e3, h1 xs (SqT.of hx), h2 ys (SqL.of hy)⟩
end
end Fm
/-! enumerate of a tuple: the library knows lists and texts alone; made by p25.py after its way -/
namespace Fm
open PySem PySem.Spec PyProof.Rows L2
open PySem.Sem (wp)
theorem meets_enumerate_newT (l : Addr) (items : Array Value) (n : Nat) (dct : Option Addr) (sl : Array (Option Value)) :
    Meets (Builtin.«enumerate.__new__» ⟨[.type "enumerate", .ref l], []⟩) (fun _ R s => s.heap.get? l = some { cls := .type "tuple", dict := dct, data := .seq items n, slots := sl } ∧
      R (.ok (.ret (.ref (s.heap.push { cls := .type "tuple_iterator", data := .fields #[.ref l, .int 0 0] }).objs.size)))
        { s with heap := (s.heap.push { cls := .type "tuple_iterator", data := .fields #[.ref l, .int 0 0] }).push { cls := .type "enumerate", data := .fields #[.none, .bool false, .ref s.heap.objs.size, rawInt 0, .none, .none] } }) :=
  .of_wp fun prog w A R s h => by
    obtain ⟨hp, g, d, tk, os⟩ := s; obtain ⟨hl, h⟩ := h
    have hsub := sub_enumerate
    have hL : Heap.IsTuple (Shared.heap ⟨hp, g, d, tk, os⟩) l items := ⟨_, hl, rfl, n, rfl⟩
    wp_walk using wpAny_loadPart' hl
    refine wpAny_stack_any fun st => wpAny_pure ?_
    split
    · rename_i c _ _ _ _ _
      cases (c == Value.type "enumerate")
      · wp_walk using wpAny_loadPart' hl, wpAny_pyIter_tuple hL
        exact ⟨_, rfl, h⟩
      · wp_walk using wpAny_loadPart' hl, wpAny_pyIter_tuple hL
        exact ⟨_, rfl, h⟩
    · wp_walk using wpAny_loadPart' hl, wpAny_pyIter_tuple hL
      exact ⟨_, rfl, h⟩

section
variable {prog : Program} {w : World} {A : Around} {E : Value → Shared → Prop} {s : Shared}
theorem call_enumerate_tup {l : Addr} {items : Array Value} {Q : Value → Shared → Prop} (hL : s.heap.IsTuple l items)
    (h : ∀ h', IsEnum h' (s.heap.objs.size + 1) s.heap.objs.size 0 .none → h'.IsTupleIter s.heap.objs.size l 0 → h'.objs.size = s.heap.objs.size + 2 →
      (∀ b o, s.heap.get? b = some o → h'.get? b = some o) → Q (.ref (s.heap.objs.size + 1)) { s with heap := h' }) :
    wpAny (model prog w) A (call (.type "enumerate") [.ref l]) Q E s := by
  obtain ⟨⟨c, dct, dt, sl⟩, hl, hc, n, hd⟩ := hL
  replace hc : c = .type "tuple" := hc
  replace hd : dt = .seq items n := hd
  subst hc hd
  refine callType_new F.called_enumerate (by decide) (F.typeCall_enumerate_1 _) (F.newCall_enumerate_1 _) (fun obj => F.args_object_init_2 obj _) F.entry_enumerate_new
    (meets_enumerate_newT l items n dct sl) ⟨hl, ?_⟩
  have hz : (s.heap.push { cls := .type "tuple_iterator", data := .fields #[.ref l, .int 0 0] }).objs.size = s.heap.objs.size + 1 := Heap.size_push ..
  show _ ∧ _
  rw [hz]
  have he : IsEnum ((s.heap.push { cls := .type "tuple_iterator", data := .fields #[.ref l, .int 0 0] }).push
      { cls := .type "enumerate", data := .fields #[.none, .bool false, .ref s.heap.objs.size, rawInt 0, .none, .none] }) (s.heap.objs.size + 1) s.heap.objs.size 0 .none := by
    have := Heap.get?_push_size (s.heap.push { cls := .type "tuple_iterator", data := .fields #[.ref l, .int 0 0] })
      (o := { cls := .type "enumerate", data := .fields #[.none, .bool false, .ref s.heap.objs.size, rawInt 0, .none, .none] }) rfl
    rw [hz] at this; exact this
  refine ⟨⟨_, he, rfl⟩, h _ he ⟨_, Heap.get?_push_of_some _ (Heap.get?_push_size _ rfl), rfl, rfl⟩ (by rw [Heap.size_push, hz]) fun b o x => Heap.get?_push_of_some _ (Heap.get?_push_of_some _ x)⟩

theorem enumerate_nextT_item {e it l : Addr} {i : Nat} {items : Array Value} {x old : Value} {Q : Value → Shared → Prop}
    (he : IsEnum s.heap e it i old) (hit : s.heap.IsTupleIter it l i) (hl : s.heap.IsTuple l items) (hx : items[i]? = some x) (hne : e ≠ it)
    (hQ : ∀ h', IsEnumOut h' e it ((i : Int) + 1) x s.heap.objs.size → h'.IsTupleIter it l (i + 1) →
      h'.get? s.heap.objs.size = some { cls := .type "tuple", data := .seq #[.int i s.toks, x] } → h'.objs.size = s.heap.objs.size + 1 →
      (∀ b o, b ≠ e → b ≠ it → s.heap.get? b = some o → h'.get? b = some o) → Q (.ref s.heap.objs.size) { s with heap := h', toks := s.toks + 1 }) :
    wpAny (model prog w) A (Builtin.«enumerate.__next__» ⟨[.ref e], []⟩) (fun fin s' => ∃ v, fin = .done (.ret v) ∧ Q v s') E s := by
  obtain ⟨hp, g, d, tk, os⟩ := s
  show wpAny _ _ (field (.ref e) 2 >>= _) _ _ _
  refine wpAny_bind (wpAny_field he rfl (x := .ref it) rfl ?_)
  refine wpAny_bind (RZ.nextOf_tuple_item hit hl hx fun h₁ hit₁ hs₁ => ?_)
  replace hs₁ : Heap.SameBut it hp h₁ := hs₁
  have he₁ : IsEnum h₁ e it i old := (hs₁.2 e hne).trans he
  show wpAny _ _ (field (.ref e) 3 >>= _) _ _ ⟨h₁, g, d, tk, os⟩
  refine wpAny_bind (wpAny_field he₁ rfl (x := rawInt i) rfl ?_)
  show wpAny _ _ (field (.ref e) 4 >>= _) _ _ ⟨h₁, g, d, tk, os⟩
  refine wpAny_bind (wpAny_field he₁ rfl (x := .none) rfl ?_)
  show wpAny _ _ (mkInt i >>= _) _ _ ⟨h₁, g, d, tk, os⟩
  refine wpAny_bind (wpAny_mkInt ?_)
  show wpAny _ _ (setField (.ref e) 3 (rawInt ((i : Int) + 1)) >>= _) _ _ ⟨h₁, g, d, tk + 1, os⟩
  refine wpAny_bind (wpAny_setField_rec he₁ (by simp) fun h₂ he₂ hs₂ => ?_)
  replace hs₂ : Heap.SameBut e h₁ h₂ := hs₂
  replace he₂ : IsEnum h₂ e it ((i : Int) + 1) old := he₂
  show wpAny _ _ (setField (.ref e) 4 .none >>= _) _ _ ⟨h₂, g, d, tk + 1, os⟩
  refine wpAny_bind (wpAny_setField_rec he₂ (by simp) fun h₃ he₃ hs₃ => ?_)
  replace hs₃ : Heap.SameBut e h₂ h₃ := hs₃
  replace he₃ : IsEnum h₃ e it ((i : Int) + 1) old := he₃
  show wpAny _ _ (newTuple [.int i tk, x] >>= _) _ _ ⟨h₃, g, d, tk + 1, os⟩
  refine wpAny_bind (wpAny_newTuple ?_)
  have he₄ : IsEnum (h₃.push { cls := .type "tuple", data := .seq #[.int i tk, x] }) e it ((i : Int) + 1) old := Heap.get?_push_of_some _ he₃
  generalize hh₄ : h₃.push { cls := .type "tuple", data := .seq #[.int i tk, x] } = h₄ at he₄
  have hsz : h₃.objs.size = hp.objs.size := by rw [hs₃.1, hs₂.1, hs₁.1]
  have hel : e < hp.objs.size := Heap.lt_size he
  have ht₄ : h₄.get? hp.objs.size = some { cls := .type "tuple", data := .seq #[.int i tk, x] } := by rw [← hh₄, ← hsz]; exact Heap.get?_push_size _ rfl
  have hz₄ : h₄.objs.size = hp.objs.size + 1 := by rw [← hh₄, Heap.size_push, hsz]
  have hk₄ : ∀ b o, b ≠ e → b ≠ it → hp.get? b = some o → h₄.get? b = some o := fun b o hbe hbi hb => by
    rw [← hh₄]; exact Heap.get?_push_of_some _ (hs₃.extBut b o hbe (hs₂.extBut b o hbe (hs₁.extBut b o hbi hb)))
  have hit₄ : h₄.IsTupleIter it l (i + 1) := by
    rw [← hh₄]; obtain ⟨o, ho, r⟩ := (hit₁.extBut hs₂.extBut (Ne.symm hne)).extBut hs₃.extBut (Ne.symm hne); exact ⟨o, Heap.get?_push_of_some _ ho, r⟩
  show wpAny _ _ (Builtin.SmallTypes.ownedTupleIsFree (.ref e) >>= _) _ _ ⟨h₄, g, d, tk + 1, os⟩
  rw [hsz]
  clear hh₄ he₃ hs₃ he₂ hs₂ he₁ hs₁ hit₁ hsz h₃ h₂ h₁
  refine wpAny_bind ?_
  · unfold Builtin.SmallTypes.ownedTupleIsFree
    refine wpAny_bind (wpAny_field he₄ rfl (x := .none) rfl (wpAny_pure ?_))
    simp only [if_true]
    refine wpAny_bind (wpAny_rule ?_)
    refine wpAny_bind (wpAny_field he₄ rfl (x := old) rfl ?_)
    refine wpAny_bind (wpAny_setField_rec he₄ (by simp) fun h₅ he₅ hs₅ => ?_)
    replace hs₅ : Heap.SameBut e h₄ h₅ := hs₅
    replace he₅ : IsEnum h₅ e it ((i : Int) + 1) x := he₅
    show wpAny _ _ (Builtin.SmallTypes.ownedTupleHandOut (.ref e) (.ref hp.objs.size) >>= _) _ _ ⟨h₅, g, d, tk + 1, os⟩
    refine wpAny_bind ?_
    · unfold Builtin.SmallTypes.ownedTupleHandOut
      refine wpAny_bind (wpAny_setField_rec he₅ (by simp) fun h₆ he₆ hs₆ => ?_)
      replace hs₆ : Heap.SameBut e h₅ h₆ := hs₆
      replace he₆ : IsEnumOut h₆ e it ((i : Int) + 1) x hp.objs.size := he₆
      refine wpAny_setField_rec he₆ (by simp) fun h₇ he₇ hs₇ => ?_
      replace hs₇ : Heap.SameBut e h₆ h₇ := hs₇
      replace he₇ : IsEnumOut h₇ e it ((i : Int) + 1) x hp.objs.size := he₇
      refine wpAny_bind (wpAny_letGo (wpAny_pure ⟨_, rfl, hQ h₇ he₇ ?_ ?_ ?_ ?_⟩))
      · exact ((hit₄.extBut hs₅.extBut (Ne.symm hne)).extBut hs₆.extBut (Ne.symm hne)).extBut hs₇.extBut (Ne.symm hne)
      · exact hs₇.extBut _ _ (Nat.ne_of_gt hel) (hs₆.extBut _ _ (Nat.ne_of_gt hel) (hs₅.extBut _ _ (Nat.ne_of_gt hel) ht₄))
      · rw [hs₇.1, hs₆.1, hs₅.1, hz₄]
      · exact fun b o hbe hbi hb => hs₇.extBut b o hbe (hs₆.extBut b o hbe (hs₅.extBut b o hbe (hk₄ b o hbe hbi hb)))

theorem pyNext_enumT_item {e it l : Addr} {i : Nat} {items : Array Value} {x old : Value} {Q : Option Value → Shared → Prop}
    (he : IsEnum s.heap e it i old) (hit : s.heap.IsTupleIter it l i) (hl : s.heap.IsTuple l items) (hx : items[i]? = some x) (hne : e ≠ it)
    (hQ : ∀ h', IsEnumOut h' e it ((i : Int) + 1) x s.heap.objs.size → h'.IsTupleIter it l (i + 1) →
      h'.get? s.heap.objs.size = some { cls := .type "tuple", data := .seq #[.int i s.toks, x] } → h'.objs.size = s.heap.objs.size + 1 →
      (∀ b o, b ≠ e → b ≠ it → s.heap.get? b = some o → h'.get? b = some o) → Q (some (.ref s.heap.objs.size)) { s with heap := h', toks := s.toks + 1 }) :
    wpAny (model prog w) A (pyNext (.ref e)) Q E s := by
  have hT : s.TypeIs (.ref e) "enumerate" := ⟨_, he, rfl⟩
  unfold pyNext
  exact wpAny_bind (wpAny_attempt (wpAny_callSpecial?_slot (name := Str.ofString "__next__") hT F.slot_enumerate_next
    (wpAny_call_entry F.slot_enumerate_next hT F.entry_enumerate_next
      (enumerate_nextT_item he hit hl hx hne fun h' a b c d k => wpAny_pure (hQ h' a b c d k)) (F.args_enumerate_next_1 _))))

theorem pyNext_enumT_end {e it l : Addr} {i : Nat} {items : Array Value} {old : Value} {Q : Option Value → Shared → Prop} (hh : A.handled = none)
    (he : IsEnum s.heap e it i old) (hit : s.heap.IsTupleIter it l i) (hl : s.heap.IsTuple l items) (hx : items[i]? = none)
    (hQ : ∀ h', Heap.ExtBut it s.heap h' → Q none { s with heap := h' }) : wpAny (model prog w) A (pyNext (.ref e)) Q E s := by
  have hT : s.TypeIs (.ref e) "enumerate" := ⟨_, he, rfl⟩
  unfold pyNext
  refine wpAny_bind (wpAny_attempt (wpAny_callSpecial?_slot (name := Str.ofString "__next__") hT F.slot_enumerate_next
    (wpAny_call_entry F.slot_enumerate_next hT F.entry_enumerate_next ?_ (F.args_enumerate_next_1 _))))
  show wpAny _ _ (field (.ref e) 2 >>= _) _ _ _
  refine wpAny_bind (wpAny_field he rfl (x := .ref it) rfl ?_)
  refine wpAny_bind (RZ.nextOf_tuple_end hh hit hl hx fun h' x he' hx' => ?_)
  obtain ⟨o, ho, hc⟩ := hx'
  refine wpAny_bind (wpAny_isInstance (T := "StopIteration") (b := true) ⟨o, ho, hc⟩ isSubtype_stop ?_)
  exact wpAny_pure (hQ _ he')
end
def IteT (K : PySem.W.Frag) (a : Addr) : It :=
  ⟨fun i H => ∃ (xs : List V) (x : V), SqT K H a xs ∧ xs[i]? = some x, fun i H v H' => ∃ T x, v = .ref T ∧ H T = none ∧ H' = upd H T (.tup [.int (i : Nat), x]) ∧ ∀ xs, SqT K H a xs → xs[i]? = some x, fun i H => ∃ xs : List V, SqT K H a xs ∧ xs.length ≤ i⟩
theorem turn_enumT {P : Program} {w : World} {K : PySem.W.Frag} {elts : List Expr} {kk : Nat} {tpos : Pos} (a e it : Addr) :
    Turn P w K (.Tuple elts kk tpos) (IteT K a) [e, it] e (fun i h => (∃ old, IsEnum h e it ((i : Nat) : Int) old) ∧ h.IsTupleIter it a i ∧ e ≠ it) where
  mem := by simp
  obj := fun i h st b hb => by
    obtain ⟨⟨old, he⟩, ⟨o, ho, hc, hd⟩, _⟩ := st
    have e' : b = e ∨ b = it := by simpa using hb
    rcases e' with z | z
    · rw [z]; exact ⟨_, he, fun v q => nomatch q⟩
    · rw [z]; exact ⟨o, ho, fun v q => by rw [hd] at q; cases q⟩
  keep := fun i h h' st k => let ⟨⟨old, he⟩, hi, hne⟩ := st; ⟨⟨old, k e (by simp) _ he⟩, hi.at fun o q => k it (by simp) o q, hne⟩
  item := by
    intro X hP hw hK hc i pins s σ H E I hf st hg
    subst hP hw hK
    obtain ⟨⟨old, he⟩, hit, hne⟩ := st
    obtain ⟨xs, x, hq, hx⟩ := hg
    obtain ⟨its, rv, p, hz⟩ := I.tuple hq
    obtain ⟨u, hu, ru⟩ := rv.get hx
    have hel : e < s.heap.objs.size := Heap.lt_size he
    have hil : it < s.heap.objs.size := by obtain ⟨_, q, _⟩ := hit; exact Heap.lt_size q
    refine pyNext_enumT_item he hit p (x := u) (by simpa using hu) hne fun h' ho hit' hT hsz hk => ?_
    refine ⟨_, rfl, wpAny_letOwnedTupleGo_enum (s := { s with heap := h', toks := s.toks + 1 }) ho fun h'' he' sb => ?_⟩
    have hT2 : h''.get? s.heap.objs.size = some { cls := .type "tuple", data := .seq #[.int i s.toks, u] } := (sb.2 _ (Nat.ne_of_gt hel)).trans hT
    have new : ObjOk X.prog X.w (upd H s.heap.objs.size (.tup [.int (i : Nat), x])) h'' s.heap.objs.size (.tup [.int (i : Nat), x]) :=
      ⟨by show 2 ≤ sizeLine; decide, [.int i s.toks, u], .cons ⟨_, rfl⟩ (.cons ru .nil), ⟨_, hT2, rfl, _, rfl⟩⟩
    have I1 : Inv X pins σ (upd H s.heap.objs.size (.tup [.int (i : Nat), x])) { s with heap := h'', toks := s.toks + 1 } :=
      I.turnedNew (ch := [e, it]) (fun b ob hb q => (sb.2 b (fun z => hb (by simp [z]))).trans (hk b ob (fun z => hb (by simp [z])) (fun z => hb (by simp [z])) q)) hf (Nat.le_refl _) new
    refine ⟨.ref s.heap.objs.size, _, I1, rfl, ⟨_, x, rfl, I.hok.fresh (Nat.le_refl _), rfl, fun ys hy => by rw [I.tuple_inj hy hq]; exact hx⟩, ⟨⟨u, ?_⟩, hit'.at fun o q => (sb.2 it (Ne.symm hne)).trans q, hne⟩, fun b hb => ?_⟩
    · have e1 : ((i + 1 : Nat) : Int) = (i : Int) + 1 := by omega
      rw [e1]; exact he'
    · have hb' : b < s.heap.objs.size := by
        have e' : b = e ∨ b = it := by simpa using hb
        rcases e' with z | z
        · rw [z]; exact hel
        · rw [z]; exact hil
      rw [upd_ne (Nat.ne_of_lt hb')]
      exact (hf b hb).1
  done := by
    intro X hP hw hK hc i pins s σ H E I hf st hg
    subst hP hw hK
    obtain ⟨⟨old, he⟩, hit, hne⟩ := st
    obtain ⟨xs, hq, hx⟩ := hg
    obtain ⟨its, rv, p, hz⟩ := I.tuple hq
    obtain ⟨f0, f1, f2, f3, f4, f5⟩ := hf it (by simp)
    have hl := rv.length
    exact pyNext_enumT_end (I.ok.hd hc) he hit p (by simp; omega) fun h' eb => ⟨rfl, I.turned (t' := s.toks) (fun b o hb q => eb b o hb q) f0 f1 f3 f4 f5⟩
  self := fun A i s Q E st h => let ⟨⟨_, he⟩, _⟩ := st; wpAny_pyIter_enum he h
def iEnumT (K : PySem.W.Frag) (ta : TA) : TI := fun σ H R => ta σ H fun vs H1 => ∃ a xs, vs = [.ref a] ∧ SqT K H1 a xs ∧ R (IteT K a) H1
theorem pi_enumT {X : Cx} {e : Expr} {ta : TA} {p pos tpos : Pos} {elts : List Expr} {kk : Nat} (hg : Gl X "enumerate") (hm : X.mg "enumerate" = none) (ha : PA X [e] ta) (hs : starEach [e] X.env = [(false, eval e X.env)] := by rfl) :
    PI X (.Tuple elts kk tpos) (.Call (.Name "enumerate" p) [e] [] pos) (iEnumT X.K ta) := by
  refine ⟨fun pins s σ H R I h => ?_⟩
  refine Call_ (ld_blt I hg hm boot_enumerate (PyProof.Rows.callWith_type1 (thn (ha.run pos pins s σ H _ I h) fun us s1 ⟨vs, H1, I1, r1, q1⟩ => ?_) hs rfl))
  obtain ⟨a, xs, ex, hq, q⟩ := q1
  subst ex
  cases r1 with
  | cons r rr =>
    cases rr
    cases r
    obtain ⟨its, rv, p', hz⟩ := I1.tuple hq
    refine call_enumerate_tup p' fun h' he hit hsz hk => wpAny_pyIter_enum he ?_
    have I2 : Inv X pins σ H1 { s1 with heap := h' } := I1.kept (t' := s1.toks) hk
    refine ⟨s1.heap.objs.size + 1, [s1.heap.objs.size + 1, s1.heap.objs.size], _, _, H1, rfl, I2, turn_enumT a (s1.heap.objs.size + 1) s1.heap.objs.size, ⟨⟨.none, he⟩, hit, Nat.succ_ne_self _⟩, fun b hb => ?_, q⟩
    have e' : b = s1.heap.objs.size + 1 ∨ b = s1.heap.objs.size := by simpa using hb
    have hle : s1.heap.objs.size ≤ b := by
      rcases e' with z | z
      · rw [z]; exact Nat.le_add_right _ _
      · rw [z]; exact Nat.le_refl _
    exact I1.fpOk hle (I1.hok.fresh hle)

section
variable {K : PySem.W.Frag} {g : TG} {tb : TS} {D : Ends} {σ : L2.St} {H : Hp}
theorem for_enumT {a : Addr} {xs : List V} (Pv : Nat → L2.St → Hp → Prop) (h0 : Pv 0 σ H) (hl : ∀ i σ' H', i ≤ xs.length → Pv i σ' H' → H' a = some (.tup xs))
    (hs : ∀ i x σ' H' T, xs[i]? = some x → Pv i σ' H' → H' T = none → g (.ref T) σ' (upd H' T (.tup [.int (i : Int), x])) fun σ2 H2 => tb { D with nx := Pv (i + 1), ct := Pv (i + 1), bk := D.nx } σ2 H2) (hd : ∀ σ' H', Pv xs.length σ' H' → D.nx σ' H') :
    ∃ W : Nat → Nat → L2.St → Hp → Prop, (∃ m, W 0 m σ H) ∧ ∀ i m σ H, W i m σ H →
      ((IteT K a).stop i H ∧ D.nx σ H) ∨ ((IteT K a).go i H ∧ ∃ N : L2.St → Hp → Prop, (∀ σ' H', N σ' H' → ∃ m', m' < m ∧ W (i + 1) m' σ' H') ∧ ∀ x H', (IteT K a).yld i H x H' → g x σ H' fun σ2 H2 => tb { D with nx := N, ct := N, bk := D.nx } σ2 H2) := by
  refine ⟨fun i m σ' H' => i + m = xs.length ∧ Pv i σ' H', ⟨xs.length, by omega, h0⟩, ?_⟩
  rintro i m σ' H' ⟨e, h⟩
  have hL := hl i σ' H' (by omega) h
  by_cases hi : i < xs.length
  · have hx : xs[i]? = some xs[i] := List.getElem?_eq_getElem hi
    refine .inr ⟨⟨xs, xs[i], SqT.of hL, hx⟩, fun σ2 H2 => Pv (i + 1) σ2 H2, fun σ2 H2 q => ⟨m - 1, by omega, by omega, q⟩, ?_⟩
    rintro v H2 ⟨T, x, rfl, hT, rfl, hx2⟩
    exact hs i x σ' H' T (hx2 xs (SqT.of hL)) h hT
  · have e2 : i = xs.length := by omega
    subst e2
    exact .inl ⟨⟨xs, SqT.of hL, Nat.le_refl _⟩, hd _ _ h⟩
theorem ki_enumT {X : Cx} {e : Expr} {t : TA} {p pos tpos : Pos} {elts : List Expr} {kk : Nat} (h : X.K = K) (hg : Gl X "enumerate") (hm : X.mg "enumerate" = none) (ha : PA X [e] t) (hs : starEach [e] X.env = [(false, eval e X.env)] := by rfl) :
    PI X (.Tuple elts kk tpos) (.Call (.Name "enumerate" p) [e] [] pos) (iEnumT K t) := by
  subst h; exact pi_enumT hg hm ha hs
end
end Fm
/-! floors: no move leads lower -/
namespace Fm
open PySem L2
abbrev rF : Rp (List Int) := fun H v l => ∃ a, v = .ref a ∧ H a = some (.tup (l.map V.int))
/-- no move leads from a cell to one that is more than its cost higher -/
def Keeps (rows : List Row) (F G : List Int) : Prop := ∀ (h to c : Nat) (x y : Int), Edc rows h to c → F[h]? = some x → G[to]? = some y → y ≤ x + c
def spKeeps : Sp := fun vs H Q _ => ∃ (rows : List Row) (F G : List Int) (v1 v2 v3 : V), vs = [v1, v2, v3] ∧ rL (rL rMv) H v1 rows ∧ rF H v2 F ∧ rF H v3 G ∧ rows.length = F.length ∧ (∀ h to c, Edc rows h to c → to < G.length) ∧
  ∀ (bb : Bool) (H' : Hp), Fe H H' → (bb = true ↔ Keeps rows F G) → Q (.bl bb) H'
section
variable {P : Program} {w : World} {K : PySem.W.Frag} {g : Str → Option Value} {base : Heap}
theorem ok_keeps_moves (T : Txt K g) : FnOk P w K g base CX0 1 T.d_keeps_moves.f T.d_keeps_moves.fd P_keeps_moves spKeeps := by
  refine T.d_keeps_moves.F.ok sc_keeps_moves (fun vs H Q E h => ?_) (fun cdv A outer s H vs Q E hr h => ?_)
  · obtain ⟨_, _, _, _, _, _, rfl, _⟩ := h
    rfl
  · obtain ⟨rows, F, G, v1, v2, v3, rfl, ⟨a, xs, rfl, ha, hal⟩, ⟨fa, rfl, hfa⟩, ⟨ga, rfl, hga⟩, hl, hto, kk⟩ := h
    have hu := hu_of hr
    refine ⟨_, (pss_cons (ps_for PassesOwn.never rfl (ki_enum (K := K) rfl rfl T.z_enumerate (pa_cons (pv 0) pa_nil)) (kg_tup (K := K) 2 rfl rfl (pgs_cons (pg_name (i := 3) sc_keeps_moves.nd rfl (by first | exact Or.inl rfl | exact Or.inr rfl)) (pgs_cons (pg_name (i := 4) sc_keeps_moves.nd rfl (by first | exact Or.inl rfl | exact Or.inr rfl)) pgs_nil)))
      (pss_one (ps_for PassesOwn.never rfl (ki_list (K := K) rfl (pv 4)) (kg_tup (K := K) 3 rfl rfl (pgs_cons (pg_name (i := 5) sc_keeps_moves.nd rfl (by first | exact Or.inl rfl | exact Or.inr rfl)) (pgs_cons (pg_name (i := 6) sc_keeps_moves.nd rfl (by first | exact Or.inl rfl | exact Or.inr rfl)) (pgs_cons (pg_name (i := 7) sc_keeps_moves.nd rfl (by first | exact Or.inl rfl | exact Or.inr rfl)) pgs_nil))))
        (pss_one (ps_if (pt_cmpR op_gt (pe_ix (kx_tup (K := K) rfl) (pv 2) (pv 5) (fun _ _ => rfl)) (pe_op op_add (pe_ix (kx_tup (K := K) rfl) (pv 1) (pv 3) (fun _ _ => rfl)) (pv 6)) (nomark _))
          (pss_one (ps_ret pe_bl))
          pss_nil)))))
    (pss_one (ps_ret pe_bl))), ?_⟩
    have hxl := hal.len
    have no : ∀ H', Fe H H' → (∃ (h to c : Nat) (x y : Int), Edc rows h to c ∧ F[h]? = some x ∧ G[to]? = some y ∧ ¬ y ≤ x + c) → Q (.bl false) H' := fun H' e ⟨h, to, c, x, y, h1, h2, h3, h4⟩ => kk false H' e ⟨fun z => (nomatch z), fun z => absurd (z h to c x y h1 h2 h3) h4⟩
    refine ⟨_, rfl, a, xs, rfl, SqL.of ha, for_enum (xs := xs) (fun i σ' H' => ∃ o3 o4 o5 o6 o7 : Option V, σ' = [some (.ref a), some (.ref fa), some (.ref ga), o3, o4, o5, o6, o7] ∧ Fe H H' ∧ ∀ (h to c : Nat) (x y : Int), h < i → Edc rows h to c → F[h]? = some x → G[to]? = some y → y ≤ x + c) ⟨_, _, _, _, _, rfl, Fx.refl _ _, fun h _ _ _ _ z => by omega⟩ (fun i σ' H' _ ⟨_, _, _, _, _, _, e, _⟩ => e.k ha) ?_ ?_⟩
    · rintro i x σ' H' U hx ⟨o3, o4, o5, o6, o7, rfl, e, hk⟩ hU
      obtain ⟨row, hrow, ⟨ra, rxs, rfl, hra, hral⟩⟩ := hal.get hx
      have e2 := e.trans (Fe.new (o := .tup [.int (i : Int), .ref ra]) hU)
      refine ⟨U, _, rfl, SqT.of upd_same, rfl, _, _, rfl, _, _, rfl, rfl, ?_⟩
      have hi : i < F.length := by rw [← hl]; exact (List.getElem?_eq_some_iff.mp hrow).1
      refine ⟨_, rfl, ra, rfl, ⟨_, SqL.of (e2.k hra)⟩, for_lst (xs := rxs) (fun j σ' H4 => ∃ o5 o6 o7 : Option V, σ' = [some (.ref a), some (.ref fa), some (.ref ga), some (.int (i : Int)), some (.ref ra), o5, o6, o7] ∧ Fe H H4 ∧ ∀ (to c : Nat) (x y : Int), (∃ u, (to, c, u) ∈ row.take j) → F[i]? = some x → G[to]? = some y → y ≤ x + c) ⟨_, _, _, rfl, e2, fun _ _ _ _ ⟨_, z⟩ => nomatch z⟩ (fun j σ' H4 _ ⟨_, _, _, _, e, _⟩ => e.k hra) ?_ ?_⟩
      · rintro j y σ' H4 hy ⟨o5, o6, o7, rfl, e4, hk2⟩
        obtain ⟨mv, hmv, hmr⟩ := hral.get hy
        obtain ⟨u, y1, y2, y3, rfl, hu3, rfl, rfl, _⟩ := id hmr
        refine ⟨u, _, rfl, SqT.of (e4.k hu3), rfl, _, _, rfl, _, _, rfl, _, _, rfl, rfl, ?_⟩
        have hed : Edc rows i mv.1 mv.2.1 := ⟨row, hrow, List.mem_of_getElem? hmv⟩
        have htl := hto i mv.1 mv.2.1 hed
        have hF : F[i]? = some F[i] := List.getElem?_eq_getElem hi
        have hG : G[mv.1]? = some G[mv.1] := List.getElem?_eq_getElem htl
        revert hF hG
        generalize F[i] = fx
        generalize G[mv.1] = gy
        intro hF hG
        refine ⟨_, rfl, _, rfl, ga, _, _, _, rfl, rfl, SqT.of (e4.k hga), atI_nat (by rw [List.getElem?_map, hG]; rfl), _, rfl, _, rfl, fa, _, _, _, rfl, rfl, SqT.of (e4.k hfa), atI_nat (by rw [List.getElem?_map, hF]; rfl), _, rfl, _, _, rfl, rfl, _, _, rfl, rfl, _, rfl, ?_⟩
        by_cases hb : gy ≤ fx + mv.2.1
        · rw [decide_eq_false (by omega)]
          refine iteF ⟨_, _, _, rfl, e4, fun to c x y ⟨u, hm⟩ hx hy => ?_⟩
          rw [List.take_add_one, hmv] at hm
          rcases List.mem_append.mp hm with hm | hm
          · exact hk2 to c x y ⟨u, hm⟩ hx hy
          · have := List.mem_singleton.mp hm
            subst this
            rw [hF] at hx; cases hx
            rw [hG] at hy; cases hy
            exact hb
        · rw [decide_eq_true (by omega)]
          refine iteT ?_
          exact no H4 e4 ⟨i, mv.1, mv.2.1, fx, gy, hed, hF, hG, hb⟩
      · rintro σ' H4 ⟨o5, o6, o7, rfl, e4, hk2⟩
        rw [hral.len, List.take_length] at hk2
        refine ⟨_, _, _, _, _, rfl, e4, fun h to c x y hh hed hfx hy => ?_⟩
        rcases (by omega : h < i ∨ h = i) with z | rfl
        · exact hk h to c x y z hed hfx hy
        · obtain ⟨row', h1, h2⟩ := hed
          rw [hrow] at h1; cases h1
          exact hk2 to c x y ⟨(), h2⟩ hfx hy
    · rintro σ' H' ⟨o3, o4, o5, o6, o7, rfl, e, hk⟩
      refine kk true H' e ⟨fun _ h to c x y hed hx hy => ?_, fun _ => rfl⟩
      obtain ⟨row, h1, h2⟩ := hed
      exact hk h to c x y (by rw [hxl]; exact (List.getElem?_eq_some_iff.mp h1).1) ⟨row, h1, h2⟩ hx hy
end
end Fm
/-! floors: is_floor -/
namespace Fm
open PySem L2
theorem al_of {α : Type} {r : Rp α} {H : Hp} : ∀ {xs : List V} {l : List α}, xs.length = l.length → (∀ (i : Nat) (x : V) (y : α), xs[i]? = some x → l[i]? = some y → r H x y) → Al r H xs l
  | [], [], _, _ => .nil
  | [], _ :: _, h, _ => nomatch h
  | _ :: _, [], h, _ => nomatch h
  | x :: xs, y :: l, h, k => .cons (k 0 x y rfl rfl) (al_of (by rw [List.length_cons, List.length_cons] at h; omega) fun i x y h1 h2 => k (i + 1) x y h1 h2)
/-- a table of a finished web, whole -/
theorem Rows.mat {H0 H : Hp} {n : Nat} {ks : List (Option Nat)} {L : List MatD} {S : Option Nat → Nat → Nat → Nat → Prop} (R : Rows n ks L S) (M : Mats H0 H L) {j : Nat} {k : Option Nat} (hk : ks[j]? = some k) :
    ∃ d rows, L[j]? = some d ∧ rL (rL rMv) H (.ref d.1) rows ∧ rows.length = n ∧ ∀ h to c, Edc rows h to c ↔ (h < n ∧ S k h to c) := by
  have hj : j < L.length := by rw [R.len]; exact (List.getElem?_eq_some_iff.mp hk).1
  have hd : L[j]? = some L[j] := List.getElem?_eq_getElem hj
  have hm := List.mem_of_getElem? hd
  have MM := M.mat _ hm
  refine ⟨L[j], (L[j]).2.2, hd, ⟨(L[j]).1, _, rfl, MM.at_, al_of (by rw [List.length_map, MM.len]) fun i x y h1 h2 => ?_⟩, R.rl _ hm, fun h to c => R.ed j k _ h to c hk hd⟩
  obtain ⟨q, ys, h3, _, h4, h5⟩ := MM.get h2
  rw [List.getElem?_map, h3] at h1
  cases h1
  exact ⟨q, ys, rfl, h4, h5⟩
/-- a floor for the number, by the standings -/
structure IsFl (b : Book) (m : Mach) (sts : List Stg) (t : List Nat) (num : Int) (F : List (List Int)) : Prop where
  low : ∀ (r : List Int) (h : Nat) (x : Int), F[0]? = some r → sts[h]? = some (0, []) → r[h]? = some x → x ≤ 0
  sil : ∀ (i h to c : Nat) (r : List Int) (x y : Int), F[i]? = some r → Told b m sts none h to c → r[h]? = some x → r[to]? = some y → y ≤ x + c
  rd : ∀ (i h to c a : Nat) (r r2 : List Int) (x y : Int), t[i]? = some a → F[i]? = some r → F[i + 1]? = some r2 → Told b m sts (some a) h to c → r[h]? = some x → r2[to]? = some y → y ≤ x + c
  up : ∀ (h : Nat) (s : Stg) (r : List Int) (x : Int), sts[h]? = some s → EndS m s → F[t.length]? = some r → r[h]? = some x → num ≤ x
/-- the integers of a thing that is a table -/
def intsOf (t : Thing) : List (List Int) := match t with
  | none => []
  | some l => l.map fun r => (r.getD []).map fun c => c.getD 0
theorem cells_ints {H : Hp} : ∀ {xs : List V} {l : List (Option Int)}, Al rCell H xs l → l.all (·.isSome) = true → xs = (l.map fun c => c.getD 0).map V.int
  | _, _, .nil, _ => rfl
  | _, c :: l, .cons h t, k => by
    rw [List.all_cons, Bool.and_eq_true] at k
    cases h with
    | int i => rw [cells_ints t k.2]; rfl
    | non => exact absurd k.1 (by decide)
    | bl b => exact absurd k.1 (by decide)
    | str x => exact absurd k.1 (by decide)
    | tup h => exact absurd k.1 (by decide)
theorem rowsOk_of {n k : Nat} {l : List (Option (List (Option Int)))} (h : rowsOk n k (some l) = true) : l.length = k + 1 ∧ ∀ r ∈ l, rowOk n r = true := by
  have h : (decide (l.length = k + 1) && l.all (rowOk n)) = true := h
  rw [Bool.and_eq_true, decide_eq_true_eq, List.all_eq_true] at h
  exact h
theorem thing_ints {H : Hp} {v : V} {t : Thing} {n k : Nat} (h : rThing H v t) (ok : rowsOk n k t = true) :
    ∃ a xs, v = .ref a ∧ H a = some (.tup xs) ∧ Al rF H xs (intsOf t) ∧ (intsOf t).length = k + 1 ∧ ∀ r ∈ intsOf t, r.length = n := by
  cases h with
  | non => exact nomatch (show false = true from ok)
  | lst h => exact nomatch (show false = true from ok)
  | @tup a xs l ha al =>
    obtain ⟨h1, h2⟩ := rowsOk_of ok
    refine ⟨a, xs, rfl, ha, ?_, by show (l.map _).length = _; rw [List.length_map, h1], fun r hr => ?_⟩
    · clear ok h1 ha
      show Al rF H xs (l.map fun r => (r.getD []).map fun c => c.getD 0)
      induction al with
      | nil => exact .nil
      | @cons x r xs l h t ih =>
        rw [List.map_cons]
        refine .cons ?_ (ih fun r hr => h2 r (List.mem_cons_of_mem _ hr))
        have hr := h2 r List.mem_cons_self
        cases h with
        | lst _ => exact nomatch (show false = true from hr)
        | @tup ra rxs cells hra hral =>
          have hr : (decide (cells.length = n) && cells.all (·.isSome)) = true := hr
          rw [Bool.and_eq_true] at hr
          exact ⟨ra, rfl, by rw [hra, cells_ints hral hr.2]; rfl⟩
    · obtain ⟨r0, h3, rfl⟩ := List.mem_map.mp hr
      have := h2 r0 h3
      cases r0 with
      | none => exact nomatch (show false = true from this)
      | some cells =>
        have hr : (decide (cells.length = n) && cells.all (·.isSome)) = true := this
        rw [Bool.and_eq_true, decide_eq_true_eq] at hr
        show (cells.map _).length = n
        rw [List.length_map, hr.1]
end Fm
namespace Fm
open PySem L2
theorem rCell.fe {H H' : Hp} {v : V} {c : Option Int} (h : rCell H v c) (f : Fe H H') : rCell H' v c := by
  cases h with
  | int i => exact .int i
  | non => exact .non
  | bl b => exact .bl b
  | str s => exact .str s
  | tup h => exact .tup (f.k h)
theorem rFrow.fe {H H' : Hp} {v : V} {c : Option (List (Option Int))} (h : rFrow H v c) (f : Fe H H') : rFrow H' v c := by
  cases h with
  | tup h al => exact .tup (f.k h) (L2.Paired.mapP al fun _ _ q => q.fe f)
  | lst h => exact .lst (f.k h)
theorem rThing.fe {H H' : Hp} {v : V} {c : Thing} (h : rThing H v c) (f : Fe H H') : rThing H' v c := by
  cases h with
  | tup h al => exact .tup (f.k h) (L2.Paired.mapP al fun _ _ q => q.fe f)
  | lst h => exact .lst (f.k h)
  | non => exact .non
theorem atI_end {xs : List V} {v : V} (h : xs[xs.length - 1]? = some v) : atI xs (-1) = some v := by
  have hl := (List.getElem?_eq_some_iff.mp h).1
  unfold atI
  have : ixN xs.length (-1) = some (xs.length - 1) := by
    unfold ixN
    rw [if_neg (by omega), if_pos (by omega)]
    congr 1
    omega
  rw [this]
  exact h
theorem nodup_inj {l : List Stg} (nd : l.Nodup) {i j : Nat} {a : Stg} (h1 : l[i]? = some a) (h2 : l[j]? = some a) : i = j := by
  obtain ⟨hi, e1⟩ := List.getElem?_eq_some_iff.mp h1
  obtain ⟨hj, e2⟩ := List.getElem?_eq_some_iff.mp h2
  rw [List.nodup_iff_pairwise_ne, List.pairwise_iff_getElem] at nd
  rcases Nat.lt_trichotomy i j with z | z | z
  · exact absurd (e1.trans e2.symm) (nd i j hi hj z)
  · exact z
  · exact absurd (e2.trans e1.symm) (nd j i hj hi z)
def spIsFloor : Sp := fun vs H Q _ => ∃ (b : Book) (m : Mach) (t : List Nat) (v1 v2 v5 : V) (num : Int) (th : Thing), vs = [v1, v2, .str ⟨t.toArray⟩, .int num, v5] ∧ rBook H v1 b ∧ rMach H v2 m ∧ POk b m ∧ (∀ x ∈ t, x ∈ b.1) ∧ t.length ≤ 1000 ∧ rThing H v5 th ∧
  ∀ (bb : Bool) (H' : Hp) (rs : List (List Nat)), Fe H H' → RsOf b rs → (bb = true ↔ rowsOk (stsOf m.1 rs).length t.length th = true ∧ IsFl b m (stsOf m.1 rs) t num (intsOf th)) → Q (.bl bb) H'
section
variable {P : Program} {w : World} {K : PySem.W.Frag} {g : Str → Option Value} {base : Heap}
theorem ok_is_floor (T : Txt K g) : FnOk P w K g base CX0 7 T.d_is_floor.f T.d_is_floor.fd P_is_floor spIsFloor := by
  refine T.d_is_floor.F.ok sc_is_floor (fun vs H Q E h => ?_) (fun cdv A outer s H vs Q E hr h => ?_)
  · obtain ⟨_, _, _, _, _, _, _, _, rfl, _⟩ := h
    rfl
  · obtain ⟨b, m, t, v1, v2, v5, num, th, rfl, hb, hm, pok, ht, htl, hth, kk⟩ := h
    have hu := hu_of hr
    refine ⟨_, (pss_cons (ps_set (i := 5) sc_is_floor.nd rfl (by first | exact Or.inl rfl | exact Or.inr rfl) (pe_make T.mk_MoveWeb (ok_MoveWeb_init T) (hr.mono (by decide)) rfl T.mg_MoveWeb T.d_MoveWeb_init.b .nil pass0 (pa_cons (pv 0) (pa_cons (pv 1) pa_nil))))
    (pss_cons (ps_if (pt_not (pt_val (pe_call (ok_are_floor_rows T) (hr.mono (by decide)) rfl T.d_are_floor_rows.mg T.d_are_floor_rows.kp T.d_are_floor_rows.b .nil pass0 (pa_cons (pe_callB (kc_len (K := K) rfl) (by rfl) T.z_len PySem.boot_len (pa_cons (ke_fld (K := K) rfl (pv 5) rfl) pa_nil)) (pa_cons (pe_callB kc_lenS (by rfl) T.z_len PySem.boot_len (pa_cons (pv 2) pa_nil)) (pa_cons (pv 4) pa_nil))))))
      (pss_one (ps_ret pe_bl))
      pss_nil)
    (pss_cons (ps_if (pt_cmpR op_gt (pe_ix (kx_tup (K := K) rfl) (pe_ix (kx_tup (K := K) rfl) (pv 4) pe_int (fun _ _ => rfl)) (pe_dget hu (ke_fld (K := K) rfl (pv 5) rfl) (pe_tup (pa_cons pe_int (pa_cons pe_str pa_nil))) (fun _ _ => rfl)) (fun _ _ => rfl)) pe_int (nomark _))
      (pss_one (ps_ret pe_bl))
      pss_nil)
    (pss_cons (ps_for PassesOwn.never rfl (ki_enumT (K := K) rfl rfl T.z_enumerate (pa_cons (pv 4) pa_nil)) (kg_tup (K := K) 2 rfl rfl (pgs_cons (pg_name (i := 6) sc_is_floor.nd rfl (by first | exact Or.inl rfl | exact Or.inr rfl)) (pgs_cons (pg_name (i := 7) sc_is_floor.nd rfl (by first | exact Or.inl rfl | exact Or.inr rfl)) pgs_nil)))
      (pss_cons (ps_if (pt_not (pt_val (pe_call (ok_keeps_moves T) (hr.mono (by decide)) rfl T.d_keeps_moves.mg T.d_keeps_moves.kp T.d_keeps_moves.b .nil pass0 (pa_cons (ke_fld (K := K) rfl (pv 5) rfl) (pa_cons (pv 7) (pa_cons (pv 7) pa_nil))))))
        (pss_one (ps_ret pe_bl))
        pss_nil)
      (pss_one (ps_if (PW.pt (pw_and (pt_cmpR op_lt (pv 6) (pe_callB kc_lenS (by rfl) T.z_len PySem.boot_len (pa_cons (pv 2) pa_nil)) (nomark _)) (pw_and1 (pt_not (pt_val (pe_call (ok_keeps_moves T) (hr.mono (by decide)) rfl T.d_keeps_moves.mg T.d_keeps_moves.kp T.d_keeps_moves.b .nil pass0 (pa_cons (pe_dget hu (ke_fld (K := K) rfl (pv 5) rfl) (pe_ix ix_str (pv 2) (pv 6) (fun _ _ => rfl)) (fun _ _ => rfl)) (pa_cons (pv 7) (pa_cons (pe_ix (kx_tup (K := K) rfl) (pv 4) (pe_op op_add (pv 6) pe_int) (fun _ _ => rfl)) pa_nil)))))))))
        (pss_one (ps_ret pe_bl))
        pss_nil))))
    (pss_cons (ps_for PassesOwn.never rfl (ki_list (K := K) rfl (pe_meth0 (pv 5) T.cl_MoveWeb T.d_MoveWeb_ends.m (ok_MoveWeb_ends T) (hr.mono (by decide)) T.d_MoveWeb_ends.b .nil pass0)) (pg_name (i := 8) sc_is_floor.nd rfl (by first | exact Or.inl rfl | exact Or.inr rfl))
      (pss_one (ps_if (pt_cmpR op_lt (pe_ix (kx_tup (K := K) rfl) (pe_ix (kx_tup (K := K) rfl) (pv 4) (pe_un un_neg pe_int) (fun _ _ => rfl)) (pv 8) (fun _ _ => rfl)) (pv 3) (nomark _))
        (pss_one (ps_ret pe_bl))
        pss_nil)))
    (pss_one (ps_ret pe_bl))))))), ?_⟩
    refine ⟨_, rfl, _, rfl, fun x_ dx hx hdx hne => ?_⟩
    refine ⟨H, b, m, x_, dx, v1, v2, rfl, (Fe.new hdx).trans (Fe.new (by rw [upd_ne hne.symm]; exact hx)), hx, upd_same, hb, hm, pok, fun H1 rs L as xs ah rd hrs so hl W R => ⟨rfl, ?_⟩⟩
    have hw : Wb T.c_MoveWeb b m (stsOf m.1 rs) H1 x_ := ⟨H, L, dx, v1, v2, as, xs, ah, rd, W, R⟩
    have sd : Std b m (stsOf m.1 rs) := ⟨so, hl, rs, rfl, hrs⟩
    have e1 := W.fe
    obtain ⟨rs', hro, ers⟩ := sd.rests
    have fin : ∀ (bb : Bool) (H' : Hp), Fe H1 H' → (bb = true ↔ rowsOk (stsOf m.1 rs).length t.length th = true ∧ IsFl b m (stsOf m.1 rs) t num (intsOf th)) → Q (.bl bb) H' := fun bb H' e h => kk bb H' rs' (e1.trans e) hro (by rw [← ers]; exact h)
    clear ers hrs
    revert so hl W R hw sd fin
    generalize stsOf m.1 rs = sts
    intro so hl W R hw sd fin
    obtain ⟨p0, hp0, hins⟩ := W.ins
    have hxl := W.hx.len
    refine ⟨_, rfl, x_, _, dx, _, _, rfl, hins, T.cl_MoveWeb, T.na_MoveWeb_standings, wfl_s, as, _, rfl, .inl (SqL.of W.hs), _, rfl, _, rfl, by rw [slen, sizeLine_eq]; omega, _, rfl, sts.length, t.length, v5, th, ?_, hth.fe e1, by omega, by omega, fun H2 e2 => ?_⟩
    · rw [hxl, slen]; rfl
    cases hok : rowsOk sts.length t.length th with
    | false => exact ⟨_, rfl, iteT (fin false H2 e2 ⟨fun z => (nomatch z), fun z => by rw [hok] at z; exact nomatch z.1⟩)⟩
    | true =>
      obtain ⟨ta, txs, rfl, hta, htal, hFl, hFn⟩ := thing_ints (hth.fe e1) hok
      have hxsl := htal.len
      generalize hF : intsOf th = F at *
      have fin2 : ∀ (bb : Bool) (H' : Hp), Fe H1 H' → (bb = true ↔ IsFl b m sts t num F) → Q (.bl bb) H' := fun bb H' e h => fin bb H' e (h.trans ⟨fun z => ⟨hok, z⟩, fun z => z.2⟩)
      refine ⟨_, rfl, iteF ?_⟩
      obtain ⟨i0, hi0⟩ := sd.start
      have hi0l := (List.getElem?_eq_some_iff.mp hi0).1
      have hF0 : F[0]? = some (F[0]'(by omega)) := List.getElem?_eq_getElem _
      obtain ⟨v0, hv0, ⟨r0, rfl, hr0⟩⟩ := htal.at hF0
      have hr0n := hFn _ (List.mem_of_getElem? hF0)
      revert hF0 hr0 hr0n
      generalize F[0]'(by omega) = f0
      intro hF0 hr0 hr0n
      obtain ⟨x0, hx0⟩ : ∃ x0, f0[i0]? = some x0 := ⟨_, List.getElem?_eq_getElem (by omega)⟩
      refine ⟨_, rfl, ta, _, _, _, rfl, rfl, SqT.of (e2.k hta), atI_nat (j := 0) hv0, _, rfl, x_, _, dx, _, _, rfl, e2.k hins, T.cl_MoveWeb, T.na_MoveWeb_homes, wfl_h, by show 2 ≤ sizeLine; decide, fun U hU => ?_⟩
      have gU := Fe.new (o := .tup [.int 0, .str ""]) hU
      have e3 := e2.trans gU
      refine ⟨ah, .int (i0 : Int), rfl, by rw [← hkvs_at sd.ok.nd hi0]; exact DGet.t (e3.k W.hh) (by rw [upd_same, str_nil]; rfl), r0, _, _, _, rfl, rfl, SqT.of (e3.k hr0), atI_nat (by rw [List.getElem?_map, hx0]; rfl), _, _, rfl, rfl, _, rfl, ?_⟩
      generalize upd H2 U (.tup [.int 0, .str ""]) = H3 at e3 gU ⊢
      by_cases h0 : 0 < x0
      · rw [decide_eq_true h0]
        exact iteT (fin2 false H3 e3 ⟨fun z => (nomatch z), fun z => by have := z.low f0 i0 x0 hF0 hi0 hx0; omega⟩)
      · rw [decide_eq_false h0]
        refine iteF ?_
        have hst : ∀ {i : Nat} {r : List Int}, F[i]? = some r → r.length = sts.length := fun h => hFn _ (List.mem_of_getElem? h)
        refine ⟨_, rfl, ta, txs, rfl, SqT.of (e3.k hta), for_enumT (xs := txs) (fun i σ' H' => ∃ o6 o7 : Option V, σ' = [some v1, some v2, some (.str ⟨t.toArray⟩), some (.int num), some (.ref ta), some (.ref x_), o6, o7, none] ∧ Fe H1 H' ∧
          (∀ (i' h to c : Nat) (r : List Int) (x y : Int), i' < i → F[i']? = some r → Told b m sts none h to c → r[h]? = some x → r[to]? = some y → y ≤ x + c) ∧
          (∀ (i' h to c a : Nat) (r r2 : List Int) (x y : Int), i' < i → t[i']? = some a → F[i']? = some r → F[i' + 1]? = some r2 → Told b m sts (some a) h to c → r[h]? = some x → r2[to]? = some y → y ≤ x + c)) ⟨_, _, rfl, e3, fun _ _ _ _ _ _ _ z => by omega, fun _ _ _ _ _ _ _ _ _ z => by omega⟩ (fun i σ' H' _ ⟨_, _, _, e, _⟩ => e.k hta) ?_ ?_⟩
        · obtain ⟨d0, rows0, hd0, hrl0, hn0, hed0⟩ := R.mat W.mats (j := 0) (k := none) rfl
          have ep : p0 = d0.1 := by
            rw [List.getElem?_map, hd0] at hp0
            exact (Option.some.inj hp0).symm
          subst ep
          rintro i x σ' H' U hx ⟨o6, o7, rfl, e, hs, hrd⟩ hU
          obtain ⟨r, hr, ⟨ra, rfl, hra⟩⟩ := htal.get hx
          have hrn := hst hr
          have e4 := e.trans (Fe.new (o := .tup [.int (i : Int), .ref ra]) hU)
          refine ⟨U, _, rfl, SqT.of upd_same, rfl, _, _, rfl, _, _, rfl, rfl, ?_⟩
          generalize upd H' U (.tup [.int (i : Int), .ref ra]) = H4 at e4 ⊢
          refine ⟨_, rfl, x_, _, dx, _, _, rfl, e4.k hins, T.cl_MoveWeb, T.na_MoveWeb_silent, wfl_l, _, rfl, _, rfl, rows0, r, r, _, _, _, rfl, Me.go (r := rL (rL rMv)) hrl0 e4, ⟨ra, rfl, e4.k hra⟩, ⟨ra, rfl, e4.k hra⟩, by omega, fun h to c z => by have := told_lt ((hed0 h to c).mp z).2; omega, fun b1 H5 e5 hb1 => ⟨_, rfl, ?_⟩⟩
          have e5 := e4.trans e5
          cases b1 with
          | false => exact iteT (fin2 false H5 e5 ⟨fun z => (nomatch z), fun z => hb1.mpr fun h to c x y hed hx hy => z.sil i h to c r x y hr ((hed0 h to c).mp hed).2 hx hy⟩)
          | true =>
            refine iteF ?_
            have hk1 := hb1.mp rfl
            have hs' : ∀ (i' h to c : Nat) (r : List Int) (x y : Int), i' < i + 1 → F[i']? = some r → Told b m sts none h to c → r[h]? = some x → r[to]? = some y → y ≤ x + c := fun i' h to c r' x y hi' hr' ht' hx hy => by
              rcases (by omega : i' < i ∨ i' = i) with z | rfl
              · exact hs i' h to c r' x y z hr' ht' hx hy
              · rw [hr] at hr'; cases hr'
                exact hk1 h to c x y ((hed0 h to c).mpr ⟨(told_lt ht').1, ht'⟩) hx hy
            refine ⟨_, rfl, _, rfl, _, rfl, by rw [slen, sizeLine_eq]; omega, _, _, rfl, rfl, _, rfl, ?_⟩
            rw [slen]
            by_cases hit : i < t.length
            · rw [decide_eq_true (by omega)]
              refine iteT ?_
              obtain ⟨a, hta2⟩ : ∃ a, t[i]? = some a := ⟨_, List.getElem?_eq_getElem hit⟩
              obtain ⟨jj, hjj⟩ := List.mem_iff_getElem?.mp (ht a (List.mem_of_getElem? hta2))
              have hkj : (keysOf b)[jj + 1]? = some (some a) := by
                show (none :: b.1.map some)[jj + 1]? = _
                rw [List.getElem?_cons_succ, List.getElem?_map, hjj]; rfl
              obtain ⟨d1, rows1, hd1, hrl1, hn1, hed1⟩ := R.mat W.mats hkj
              have hd2' : ((L.map (·.1)).tail)[jj]? = some d1.1 := by rw [List.getElem?_tail, List.getElem?_map, hd1]; rfl
              obtain ⟨r2, hr2⟩ : ∃ r2, F[i + 1]? = some r2 := ⟨_, List.getElem?_eq_getElem (by omega)⟩
              obtain ⟨v2', hv2', ⟨ra2, rfl, hra2⟩⟩ := htal.at hr2
              have hr2n := hst hr2
              refine ⟨_, rfl, x_, _, dx, _, _, rfl, e5.k hins, T.cl_MoveWeb, T.na_MoveWeb_reading, wfl_r, _, rfl, _, rfl, ⟨t.toArray⟩, _, a, rfl, rfl, by rw [slen, sizeLine_eq]; omega, atI_nat hta2, rd, .ref d1.1, rfl, by rw [← rkvs_at sd.ok.ln hjj hd2']; exact DGet.k (k := kS [a]) (e5.k W.hr), _, rfl, _, rfl, _, rfl, _, _, rfl, rfl, ta, _, _, _, rfl, rfl, SqT.of (e5.k hta), atI_nat (j := i + 1) hv2', rows1, r, r2, _, _, _, rfl, Me.go (r := rL (rL rMv)) hrl1 e5, ⟨ra, rfl, e5.k hra⟩, ⟨ra2, rfl, e5.k hra2⟩, by omega, fun h to c z => by have := told_lt ((hed1 h to c).mp z).2; omega, fun b2 H6 e6 hb2 => ⟨_, rfl, ?_⟩⟩
              have e6 := e5.trans e6
              cases b2 with
              | false => exact iteT (fin2 false H6 e6 ⟨fun z => (nomatch z), fun z => hb2.mpr fun h to c x y hed hx hy => z.rd i h to c a r r2 x y hta2 hr hr2 ((hed1 h to c).mp hed).2 hx hy⟩)
              | true =>
                have hk2 := hb2.mp rfl
                refine iteF ⟨_, _, rfl, e6, hs', fun i' h to c a' r' r2' x y hi' ha hr' hr2' ht' hx hy => ?_⟩
                rcases (by omega : i' < i ∨ i' = i) with z | rfl
                · exact hrd i' h to c a' r' r2' x y z ha hr' hr2' ht' hx hy
                · rw [hr] at hr'; cases hr'
                  rw [hr2] at hr2'; cases hr2'
                  rw [hta2] at ha; cases ha
                  exact hk2 h to c x y ((hed1 h to c).mpr ⟨(told_lt ht').1, ht'⟩) hx hy
            · rw [decide_eq_false (by omega)]
              refine iteF (iteF ⟨_, _, rfl, e5, hs', fun i' h to c a r r2 x y hi' ha hr' hr2 ht' hx hy => ?_⟩)
              have := (List.getElem?_eq_some_iff.mp ha).1
              exact hrd i' h to c a r r2 x y (by omega) ha hr' hr2 ht' hx hy
        · rintro σ' H' ⟨o6, o7, rfl, e, hs, hrd⟩
          have hs2 : ∀ (i h to c : Nat) (r : List Int) (x y : Int), F[i]? = some r → Told b m sts none h to c → r[h]? = some x → r[to]? = some y → y ≤ x + c := fun i h to c r x y hr => hs i h to c r x y (by rw [hxsl]; exact (List.getElem?_eq_some_iff.mp hr).1) hr
          have hrd2 : ∀ (i h to c a : Nat) (r r2 : List Int) (x y : Int), t[i]? = some a → F[i]? = some r → F[i + 1]? = some r2 → Told b m sts (some a) h to c → r[h]? = some x → r2[to]? = some y → y ≤ x + c := fun i h to c a r r2 x y ha hr => hrd i h to c a r r2 x y (by rw [hxsl]; exact (List.getElem?_eq_some_iff.mp hr).1) ha hr
          refine ⟨_, rfl, x_, dx, _, rfl, e.k hins, wfl_no (by decide +kernel) (by decide +kernel) (by decide +kernel) (by decide +kernel) (by decide +kernel) (by decide +kernel), b, m, sts, x_, rfl, hw.f e, sd, fun q H5 e5 hq hqv => ?_⟩
          have e5 := e.trans e5
          have hen : ∀ h, h ∈ endH m sts sts.length ↔ ∃ s, sts[h]? = some s ∧ EndS m s := fun h => endH_mem
          obtain ⟨rl, hrl⟩ : ∃ rl, F[t.length]? = some rl := ⟨_, List.getElem?_eq_getElem (by omega)⟩
          obtain ⟨vl', hvl', ⟨ral, rfl, hral⟩⟩ := htal.at hrl
          have hrln := hst hrl
          refine ⟨q, rfl, ⟨_, SqL.of hqv⟩, for_lst (xs := (endH m sts sts.length).map vN) (fun i σ' H' => ∃ o8 : Option V, σ' = [some v1, some v2, some (.str ⟨t.toArray⟩), some (.int num), some (.ref ta), some (.ref x_), o6, o7, o8] ∧ Fe H5 H' ∧ ∀ h ∈ (endH m sts sts.length).take i, ∀ x, rl[h]? = some x → num ≤ x) ⟨_, rfl, Fx.refl _ _, fun _ z => nomatch z⟩ (fun i σ' H' _ ⟨_, _, e, _⟩ => e.k hqv) ?_ ?_⟩
          · rintro i y σ' H6 hy ⟨o8, rfl, e6, hup⟩
            rw [List.getElem?_map] at hy
            obtain ⟨h, hh, rfl⟩ : ∃ h, (endH m sts sts.length)[i]? = some h ∧ y = vN h := by
              cases z : (endH m sts sts.length)[i]? with
              | none => rw [z] at hy; cases hy
              | some h => rw [z] at hy; exact ⟨h, rfl, (Option.some.inj hy).symm⟩
            obtain ⟨s, hs1, hs2'⟩ := (hen h).mp (List.mem_of_getElem? hh)
            have hhl := (List.getElem?_eq_some_iff.mp hs1).1
            obtain ⟨x, hx⟩ : ∃ x, rl[h]? = some x := ⟨_, List.getElem?_eq_getElem (by omega)⟩
            have e7 := e5.trans e6
            refine ⟨_, rfl, _, rfl, ta, _, _, _, rfl, rfl, SqT.of (e7.k hta), atI_end (by rw [hxsl, hFl, Nat.add_sub_cancel]; exact hvl'), _, rfl, ral, _, _, _, rfl, rfl, SqT.of (e7.k hral), atI_nat (by rw [List.getElem?_map, hx]; rfl), _, rfl, _, _, rfl, rfl, _, rfl, ?_⟩
            by_cases hb : x < num
            · rw [decide_eq_true hb]
              exact iteT (fin2 false H6 e7 ⟨fun z => (nomatch z), fun z => by have := z.up h s rl x hs1 hs2' hrl hx; omega⟩)
            · rw [decide_eq_false hb]
              refine iteF ⟨_, rfl, e6, fun h' hm' x' hx' => ?_⟩
              rw [List.take_add_one, hh] at hm'
              rcases List.mem_append.mp hm' with hm' | hm'
              · exact hup h' hm' x' hx'
              · rw [List.mem_singleton.mp hm', hx] at hx'; cases hx'; omega
          · rintro σ' H6 ⟨o8, rfl, e6, hup⟩
            rw [List.length_map, List.take_length] at hup
            refine fin2 true H6 (e5.trans e6) ⟨fun _ => ⟨fun r h x hr hh hx => ?_, hs2, hrd2, fun h s r x h1 h2 h3 h4 => ?_⟩, fun _ => rfl⟩
            · rw [hF0] at hr; cases hr
              have : h = i0 := (nodup_inj sd.ok.nd hh hi0)
              rw [this, hx0] at hx; cases hx; omega
            · rw [hrl] at h3; cases h3
              exact hup h ((hen h).mpr ⟨s, h1, h2⟩) x h4
end
end Fm
namespace Fm
open PySem L2
instance : Mo rF := ⟨fun f ⟨a, e, h⟩ => ⟨a, e, f.tups _ _ h⟩⟩
theorem isfl_rows {b : Book} {m : Mach} {sts : List Stg} {t : List Nat} {rows : List CRow} {c most : Nat} (so : SOk b m sts) (hl : rows.length = t.length + 1) (hrows : ∀ (k : Nat) (r : CRow), rows[k]? = some r → LRow sts.length (Rc b m sts (t.take k)) r)
    (hc : least (Mend b m t) = some c) (hm : ∀ (k : Nat) (r : CRow) (d : Nat), rows[k]? = some r → some d ∈ r → d ≤ most) : IsFl b m sts t c (rows.map fun r => r.map fun o => ((o.getD most : Nat) : Int)) := by
  have at_ : ∀ {k : Nat} {r : List Int}, (rows.map fun r => r.map fun o => ((o.getD most : Nat) : Int))[k]? = some r → ∃ r0, rows[k]? = some r0 ∧ r = r0.map fun o => ((o.getD most : Nat) : Int) := fun {k r} h => by
    rw [List.getElem?_map] at h
    cases e : rows[k]? with
    | none => rw [e] at h; cases h
    | some r0 => rw [e] at h; exact ⟨r0, rfl, (Option.some.inj h).symm⟩
  have cell : ∀ {r0 : CRow} {h : Nat} {x : Int}, (r0.map fun o => ((o.getD most : Nat) : Int))[h]? = some x → ∃ o, r0[h]? = some o ∧ x = ((o.getD most : Nat) : Int) := fun {r0 h x} e => by
    rw [List.getElem?_map] at e
    cases q : r0[h]? with
    | none => rw [q] at e; cases e
    | some o => rw [q] at e; exact ⟨o, rfl, (Option.some.inj e).symm⟩
  have le_most : ∀ {k : Nat} {r0 : CRow} {h : Nat} {o : Option Nat}, rows[k]? = some r0 → r0[h]? = some o → o.getD most ≤ most := fun {k r0 h o} h1 h2 => by
    cases o with
    | none => exact Nat.le_refl _
    | some d => exact hm k r0 d h1 (List.mem_of_getElem? h2)
  have low : ∀ {k : Nat} {r0 : CRow} {h e : Nat} {o : Option Nat}, rows[k]? = some r0 → r0[h]? = some o → Rc b m sts (t.take k) h e → o.getD most ≤ e := fun {k r0 h e o} h1 h2 h3 => by
    obtain ⟨c', h4, h5⟩ := (hrows k r0 h1).low h e h3
    rw [h2] at h4; cases h4
    exact h5
  refine ⟨fun r h x h1 h2 h3 => ?_, fun i h to d r x y h1 h2 h3 h4 => ?_, fun i h to d a r r2 x y ha h1 h2 h3 h4 h5 => ?_, fun h s r x h1 h2 h3 h4 => ?_⟩
  · obtain ⟨r0, e0, rfl⟩ := at_ h1
    obtain ⟨o, e1, rfl⟩ := cell h3
    have := low e0 e1 (e := 0) (Cl.beg ⟨h2, rfl⟩)
    omega
  · obtain ⟨r0, e0, rfl⟩ := at_ h1
    obtain ⟨o, e1, rfl⟩ := cell h3
    obtain ⟨o2, e2, rfl⟩ := cell h4
    cases o with
    | none =>
      have := le_most e0 e2
      show ((o2.getD most : Nat) : Int) ≤ ((most : Nat) : Int) + _
      omega
    | some z =>
      have q := (hrows i r0 e0).snd h z e1
      have q2 : Rc b m sts (t.take i) to (z + d) := by
        obtain ⟨s, a1, a2⟩ := (rc_rs so _ _ _).mp q
        obtain ⟨s', a3, a4⟩ := (told_at so a1).mp h2
        exact (rc_rs so _ _ _).mpr ⟨s', a3, a2.sil a4⟩
      have := low e0 e2 q2
      show ((o2.getD most : Nat) : Int) ≤ ((z : Nat) : Int) + _
      omega
  · obtain ⟨r0, e0, rfl⟩ := at_ h1
    obtain ⟨r3, e3, rfl⟩ := at_ h2
    obtain ⟨o, e1, rfl⟩ := cell h4
    obtain ⟨o2, e2, rfl⟩ := cell h5
    cases o with
    | none =>
      have := le_most e3 e2
      show ((o2.getD most : Nat) : Int) ≤ ((most : Nat) : Int) + _
      omega
    | some z =>
      have q := (hrows i r0 e0).snd h z e1
      have q2 : Rc b m sts (t.take (i + 1)) to (z + d) := by
        obtain ⟨s, a1, a2⟩ := (rc_rs so _ _ _).mp q
        obtain ⟨s', a3, a4⟩ := (told_at so a1).mp h3
        rw [List.take_add_one, ha]
        exact (rc_rs so _ _ _).mpr ⟨s', a3, a2.rea a4⟩
      have := low e3 e2 q2
      show ((o2.getD most : Nat) : Int) ≤ ((z : Nat) : Int) + _
      omega
  · obtain ⟨r0, e0, rfl⟩ := at_ h3
    obtain ⟨o, e1, rfl⟩ := cell h4
    have hL := hrows _ _ e0
    rw [List.take_length] at hL
    have li := least_is (Mend b m t)
    rw [hc] at li
    cases o with
    | none =>
      obtain ⟨⟨q, h5, h6⟩, _⟩ := id li
      have hok := rs_stok so.mo h6
      obtain ⟨i, hi⟩ := so.idx hok.1 hok.2
      obtain ⟨c', h7, h8⟩ := hL.low i c ((rc_rs so _ _ _).mpr ⟨_, hi, h6⟩)
      have h9 := li.2 c' (by
        obtain ⟨s2, a1, a2⟩ := (rc_rs so _ _ _).mp (hL.snd i c' h7)
        rw [hi] at a1; cases a1
        exact ⟨q, h5, a2⟩)
      have := hm _ _ _ e0 (List.mem_of_getElem? h7)
      show (c : Int) ≤ ((most : Nat) : Int)
      omega
    | some z =>
      obtain ⟨s2, a1, a2⟩ := (rc_rs so _ _ _).mp (hL.snd h z e1)
      rw [h1] at a1; cases a1
      obtain ⟨e5, e6⟩ := h2
      have := li.2 z ⟨s.1, e6, by rw [← e5]; exact a2⟩
      show (c : Int) ≤ ((z : Nat) : Int)
      omega
section
variable {P : Program} {w : World} {K : PySem.W.Frag} {g : Str → Option Value} {base : Heap}
def spFloorPaper : Sp := fun vs H Q _ => ∃ (b : Book) (m : Mach) (t : List Nat) (v1 v2 : V), vs = [v1, v2, .str ⟨t.toArray⟩] ∧ rBook H v1 b ∧ rMach H v2 m ∧ POk b m ∧ (∀ x ∈ t, x ∈ b.1) ∧ t.length ≤ 200 ∧
  (least (Mend b m t) = none → ∀ H', Fe H H' → Q .non H') ∧
  (∀ c, least (Mend b m t) = some c → ∀ (a p : Addr) (xs : List V) (Fl : List (List Int)) (rs : List (List Nat)) (H' : Hp), Fe H H' → H' a = some (.tup [vN c, .ref p]) → H' p = some (.tup xs) → Al rF H' xs Fl → RsOf b rs → Fl.length = t.length + 1 → (∀ r ∈ Fl, r.length = (stsOf m.1 rs).length) → IsFl b m (stsOf m.1 rs) t c Fl → Q (.ref a) H')
theorem ok_floor_paper (T : Txt K g) : FnOk P w K g base CX0 7 T.d_floor_paper.f T.d_floor_paper.fd P_floor_paper spFloorPaper := by
  refine T.d_floor_paper.F.ok sc_floor_paper (fun vs H Q E h => ?_) (fun cdv A outer s H vs Q E hr h => ?_)
  · obtain ⟨_, _, _, _, _, rfl, _⟩ := h
    rfl
  · obtain ⟨b, m, t, v1, v2, rfl, hb, hm, pok, ht, htl, kn, ks⟩ := h
    have hu := hu_of hr
    refine ⟨_, (pss_cons (ps_set (i := 3) sc_floor_paper.nd rfl (by first | exact Or.inl rfl | exact Or.inr rfl) (pe_make T.mk_MoveWeb (ok_MoveWeb_init T) (hr.mono (by decide)) rfl T.mg_MoveWeb T.d_MoveWeb_init.b .nil pass0 (pa_cons (pv 0) (pa_cons (pv 1) pa_nil))))
    (pss_cons (ps_set (i := 4) sc_floor_paper.nd rfl (by first | exact Or.inl rfl | exact Or.inr rfl) (pe_lst (pa_cons (pe_meth0 (pv 3) T.cl_MoveWeb T.d_MoveWeb_begun.m (ok_MoveWeb_begun T) (hr.mono (by decide)) T.d_MoveWeb_begun.b .nil pass0) pa_nil)))
    (pss_cons (ps_for PassesOwn.never rfl (pi_str (pv 2)) (pg_name (i := 5) sc_floor_paper.nd rfl (by first | exact Or.inl rfl | exact Or.inr rfl))
      (pss_one (ps_expr (ke_bm (K := K) rfl PySem.F.plainAttrs_list PySem.F.slot_list_append PySem.F.type_list_append mt_append (pv 4) (pa_cons (pe_meth (pv 3) T.cl_MoveWeb T.d_MoveWeb_behind.m (ok_MoveWeb_behind T) (hr.mono (by decide)) T.d_MoveWeb_behind.b .nil pass0 (pa_cons (pe_ix (kx_list (K := K) rfl) (pv 4) (pe_un un_neg pe_int) (fun _ _ => rfl)) (pa_cons (pv 5) pa_nil))) pa_nil)))))
    (pss_cons (ps_set (i := 6) sc_floor_paper.nd rfl (by first | exact Or.inl rfl | exact Or.inr rfl) (pe_meth (pv 3) T.cl_MoveWeb T.d_MoveWeb_least_end.m (ok_MoveWeb_least_end T) (hr.mono (by decide)) T.d_MoveWeb_least_end.b .nil pass0 (pa_cons (pe_ix (kx_list (K := K) rfl) (pv 4) (pe_un un_neg pe_int) (fun _ _ => rfl)) pa_nil)))
    (pss_cons (ps_if (pt_cmpR op_isN (pv 6) pe_non (nomark _))
      (pss_one (ps_ret pe_non))
      pss_nil)
    (pss_cons (ps_set (i := 7) sc_floor_paper.nd rfl (by first | exact Or.inl rfl | exact Or.inr rfl) (pe_callB (kc_max (K := K) rfl rfl) (by rfl) T.z_max (by decide +kernel) (pa_cons (pe_lc2 (own := [("row", 8), ("number", 9)]) (vs1 := [9]) rfl sc_floor_paper.nd (ki_list (K := K) rfl (pv 4)) (blkOk_by (N := N_floor_paper) (sc := defScope s_floor_paper) (by decide +kernel)) (by decide) (fun _ _ _ _ _ => by exact (pg_name (i := 8) sc_floor_paper.nd rfl (by first | exact Or.inl rfl | exact Or.inr rfl))) (fun _ _ _ _ _ => by exact pts_nil) (fun _ _ _ _ _ => by exact (ki_list (K := K) rfl (pv 8))) (fun _ _ _ _ _ => by exact (pg_name (i := 9) sc_floor_paper.nd rfl (by first | exact Or.inl rfl | exact Or.inr rfl))) (fun _ _ _ _ _ => by exact pts_one (pt_cmpR op_notN (pv 9) pe_non (nomark _))) (fun _ _ _ _ _ => by exact (pv 9))) pa_nil)))
    (pss_one (ps_ret (pe_tup (pa_cons (pv 6) (pa_cons (pe_callTy (kc_tuple (K := K) rfl) (by rfl) T.z_tuple (by decide +kernel) (pa_cons (pe_lc (own := [("row", 8)]) rfl sc_floor_paper.nd (ki_list (K := K) rfl (pv 4)) (blkOk_by (N := N_floor_paper) (sc := defScope s_floor_paper) (by decide +kernel)) (fun _ _ _ _ _ => by exact (pg_name (i := 8) sc_floor_paper.nd rfl (by first | exact Or.inl rfl | exact Or.inr rfl))) (fun _ _ _ _ _ => by exact pts_nil) (fun _ _ _ _ _ => by exact (pe_callTy (kc_tuple (K := K) rfl) (by rfl) T.z_tuple (by decide +kernel) (pa_cons (pe_lc (own := [("number", 9)]) rfl sc_floor_paper.nd (ki_list (K := K) rfl (pv 8)) (by exact blkOk_by (N := N_floor_paper) (by kernel_rfl)) (fun _ _ _ _ _ => by exact (pg_name (i := 9) sc_floor_paper.nd rfl (by first | exact Or.inl rfl | exact Or.inr rfl))) (fun _ _ _ _ _ => by exact pts_nil) (fun _ _ _ _ _ => by exact (pe_ifExp (pt_cmpR op_isN (pv 9) pe_non (nomark _)) (pv 7) (pv 9)))) pa_nil)))) pa_nil)) pa_nil))))))))))), ?_⟩
    refine ⟨_, rfl, _, rfl, fun x_ dx hx hdx hne => ?_⟩
    refine ⟨H, b, m, x_, dx, v1, v2, rfl, (Fe.new hdx).trans (Fe.new (by rw [upd_ne hne.symm]; exact hx)), hx, upd_same, hb, hm, pok, fun H1 rs L as xs ah rd hrs so hl W R => ⟨rfl, ?_⟩⟩
    have hw : Wb T.c_MoveWeb b m (stsOf m.1 rs) H1 x_ := ⟨H, L, dx, v1, v2, as, xs, ah, rd, W, R⟩
    have sd : Std b m (stsOf m.1 rs) := ⟨so, hl, rs, rfl, hrs⟩
    have e1 := W.fe
    obtain ⟨rs', hro, ers⟩ := sd.rests
    obtain ⟨dx', vb, vm, as', ah', p0, rd', ss, hins, _⟩ := hw.ins
    refine ⟨_, rfl, x_, dx', _, rfl, hins, wfl_no (by decide +kernel) (by decide +kernel) (by decide +kernel) (by decide +kernel) (by decide +kernel) (by decide +kernel), b, m, _, x_, rfl, hw, sd, fun p H3 row e3 hp hP hL => ?_⟩
    refine ⟨by show 1 ≤ sizeLine; decide, fun Rw hRw => ?_⟩
    have gR := Fe.new (o := .lst [.ref p]) hRw
    have e03 := e3.trans gR
    have hpR : (upd H3 Rw (.lst [.ref p])) p = some (.lst (row.map oV)) := gR.k hP
    have hRn : H1 Rw = none := e3.free hRw
    generalize hsts : stsOf m.1 rs = sts at *
    refine ⟨_, rfl, _, rfl, for_str (l := t) (fun i σ' H' => ∃ (ps : List Addr) (rows : List CRow) (o5 : Option V), σ' = [some v1, some v2, some (.str ⟨t.toArray⟩), some (.ref x_), some (.ref Rw), o5, none, none, none, none] ∧ Fe H1 H' ∧ H' Rw = some (.lst (ps.map V.ref)) ∧ ps.length = i + 1 ∧ rows.length = i + 1 ∧ (∀ q ∈ ps, q ≠ Rw) ∧
      ∀ (k : Nat) (q : Addr) (r : CRow), ps[k]? = some q → rows[k]? = some r → H' q = some (.lst (r.map oV)) ∧ LRow sts.length (Rc b m sts (t.take k)) r) ⟨[p], [row], _, rfl, e03, upd_same, rfl, rfl, fun q hq => by rw [List.mem_singleton.mp hq]; exact fun z => (by rw [z, hRw] at hP; cases hP), fun k q r h1 h2 => ?_⟩ ?_ ?_⟩
    · match k, h1, h2 with
      | 0, h1, h2 => cases h1; cases h2; exact ⟨hpR, hL⟩
      | n + 1, h1, h2 => cases h1
    · rintro i x σ' H4 hxi ⟨ps, rows, o5, rfl, e4, hRv, hpl, hrl, hpn, hrows⟩
      have hxb : x ∈ b.1 := ht x (List.mem_of_getElem? hxi)
      obtain ⟨q, hq⟩ : ∃ q, ps[i]? = some q := ⟨_, List.getElem?_eq_getElem (by omega)⟩
      obtain ⟨r, hr2⟩ : ∃ r, rows[i]? = some r := ⟨_, List.getElem?_eq_getElem (by omega)⟩
      obtain ⟨hqv, hqL⟩ := hrows i q r hq hr2
      have hil : i < t.length := (List.getElem?_eq_some_iff.mp hxi).1
      refine ⟨_, rfl, .inl ⟨rfl, _, SqL.of hRv⟩, _, rfl, x_, dx', _, rfl, e4.k hins, wfl_no (by decide +kernel) (by decide +kernel) (by decide +kernel) (by decide +kernel) (by decide +kernel) (by decide +kernel), _, rfl, _, rfl, Rw, _, _, .ref q, rfl, rfl, SqL.of hRv, atI_end (by rw [List.length_map, List.getElem?_map, hpl, Nat.add_sub_cancel, hq]; rfl), _, rfl, b, m, sts, x_, .ref q, r, _, x, rfl, hw.f e4, sd, ⟨q, _, rfl, hqv, Al.ofOpts _⟩, hqL, hxb, fun p5 H5 r5 e5 hp5 hP5 hL5 => ?_⟩
      have hp5R : p5 ≠ Rw := fun z => by rw [z, hRv] at hp5; cases hp5
      refine ⟨Rw, _, _, rfl, rfl, e5.k hRv, by rw [List.length_map, sizeLine_eq]; omega, ?_⟩
      refine ⟨ps ++ [p5], rows ++ [r5], _, rfl, (e4.trans e5).mut hRn, by rw [upd_same, List.map_append]; rfl, by rw [List.length_append, List.length_singleton, hpl], by rw [List.length_append, List.length_singleton, hrl], fun q' hq' => ?_, fun k q' r' h1 h2 => ?_⟩
      · rcases List.mem_append.mp hq' with h | h
        · exact hpn q' h
        · rw [List.mem_singleton.mp h]; exact hp5R
      · by_cases hk : k < i + 1
        · rw [List.getElem?_append_left (by omega)] at h1 h2
          obtain ⟨h3, h4⟩ := hrows k q' r' h1 h2
          exact ⟨(upd_ne (hpn q' (List.mem_of_getElem? h1))).trans (e5.k h3), h4⟩
        · have hkl : k < (ps ++ [p5]).length := (List.getElem?_eq_some_iff.mp h1).1
          rw [List.length_append, List.length_singleton] at hkl
          have hk2 : k = i + 1 := by omega
          subst hk2
          rw [List.getElem?_append_right (by omega), hpl, Nat.sub_self] at h1
          rw [List.getElem?_append_right (by omega), hrl, Nat.sub_self] at h2
          cases h1; cases h2
          refine ⟨(upd_ne hp5R).trans hP5, ?_⟩
          rw [List.take_add_one, hxi]
          show LRow sts.length (Rc b m sts (t.take i ++ [x])) r5
          rw [Rc.snoc]
          exact hL5
    · rintro σ' H4 ⟨ps, rows, o5, rfl, e4, hRv, hpl, hrl, hpn, hrows⟩
      obtain ⟨q, hq⟩ : ∃ q, ps[t.length]? = some q := ⟨_, List.getElem?_eq_getElem (by omega)⟩
      obtain ⟨r, hr2⟩ : ∃ r, rows[t.length]? = some r := ⟨_, List.getElem?_eq_getElem (by omega)⟩
      obtain ⟨hqv, hqL⟩ := hrows _ q r hq hr2
      rw [List.take_length] at hqL
      refine ⟨_, rfl, x_, dx', _, rfl, e4.k hins, wfl_no (by decide +kernel) (by decide +kernel) (by decide +kernel) (by decide +kernel) (by decide +kernel) (by decide +kernel), _, rfl, _, rfl, Rw, _, _, .ref q, rfl, rfl, SqL.of hRv, atI_end (by rw [List.length_map, List.getElem?_map, hpl, Nat.add_sub_cancel, hq]; rfl), b, m, sts, x_, .ref q, r, t, rfl, hw.f e4, sd, ⟨q, _, rfl, hqv, Al.ofOpts _⟩, hqL, fun H5 e5 => ?_⟩
      have e05 := (e1.trans e4).trans e5
      refine ⟨_, rfl, rfl, _, rfl, ?_⟩
      cases hc : least (Mend b m t) with
      | none => exact iteT (kn hc H5 e05)
      | some c0 =>
        refine iteF ?_
        have hR5 := e5.k hRv
        have hst4 := hl
        have hrows5 : ∀ (k : Nat) (q : Addr) (r : CRow), ps[k]? = some q → rows[k]? = some r → H5 q = some (.lst (r.map oV)) ∧ LRow sts.length (Rc b m sts (t.take k)) r := fun k q r h1 h2 => ⟨e5.k (hrows k q r h1 h2).1, (hrows k q r h1 h2).2⟩
        refine ⟨_, rfl, Rw, rfl, ⟨_, SqL.of hR5⟩, fun D hD => ⟨fun i mm H' => i + mm = rows.length ∧ ∃ l : List Nat, Cmp rN H5 D l H' ∧ l.length ≤ i * 4000 ∧ ∀ c, c ∈ l ↔ ∃ (k : Nat) (r : CRow), k < i ∧ rows[k]? = some r ∧ some c ∈ r, ⟨rows.length, by omega, [], Cmp.start hD, Nat.le_refl _, fun c => ⟨fun z => (nomatch z), fun ⟨k, _, z, _⟩ => by omega⟩⟩, ?_⟩⟩
        rintro i mm H' ⟨eim, l, cm, hll, hlm⟩
        have hR6 := cm.fe.k hR5
        by_cases hi : i < rows.length
        · obtain ⟨q6, hq6⟩ : ∃ q, ps[i]? = some q := ⟨_, List.getElem?_eq_getElem (by omega)⟩
          obtain ⟨r6, hr6⟩ : ∃ r, rows[i]? = some r := ⟨_, List.getElem?_eq_getElem hi⟩
          refine .inr ⟨⟨_, .ref q6, SqL.of hR6, by rw [List.getElem?_map, hq6]; rfl⟩, fun H6 => (i + 1) + (mm - 1) = rows.length ∧ ∃ l : List Nat, Cmp rN H5 D l H6 ∧ l.length ≤ (i + 1) * 4000 ∧ ∀ c, c ∈ l ↔ ∃ (k : Nat) (r : CRow), k < i + 1 ∧ rows[k]? = some r ∧ some c ∈ r, fun H6 h6 => ⟨mm - 1, by omega, h6⟩, ?_⟩
          obtain ⟨hq6v, hq6L⟩ := hrows5 i q6 r6 hq6 hr6
          have hr6l := hq6L.len
          rintro x H6 hy
          obtain ⟨hxx, rfl⟩ : (x = .ref q6) ∧ H6 = H' := by
            obtain ⟨h1, h2⟩ := hy
            have h3 := h2 _ (SqL.of hR6)
            rw [List.getElem?_map, hq6] at h3
            exact ⟨(Option.some.inj h3).symm, h1⟩
          subst hxx
          refine ⟨rfl, ?_⟩
          refine iteT (B := (i + 1) + (mm - 1) = rows.length ∧ ∃ l : List Nat, Cmp rN H5 D l H6 ∧ l.length ≤ (i + 1) * 4000 ∧ ∀ c, c ∈ l ↔ ∃ (k : Nat) (r : CRow), k < i + 1 ∧ rows[k]? = some r ∧ some c ∈ r) ?_
          have hq7 := cm.fe.k hq6v
          refine ⟨_, rfl, q6, rfl, ⟨_, SqL.of hq7⟩, fun j k H7 => j + k = r6.length ∧ ∃ l : List Nat, Cmp rN H5 D l H7 ∧ l.length ≤ i * 4000 + j ∧ ∀ c, c ∈ l ↔ (∃ (k : Nat) (r : CRow), k < i ∧ rows[k]? = some r ∧ some c ∈ r) ∨ some c ∈ r6.take j, ⟨r6.length, by omega, l, cm, by omega, fun c => (hlm c).trans ⟨.inl, fun h => h.elim id fun z => (nomatch z)⟩⟩, ?_⟩
          rintro j k2 H7 ⟨ejk, l7, cm7, hll7, hlm7⟩
          have hq8 := cm7.fe.k hq6v
          by_cases hj : j < r6.length
          · obtain ⟨oc, hoc⟩ : ∃ oc, r6[j]? = some oc := ⟨_, List.getElem?_eq_getElem hj⟩
            refine .inr ⟨⟨_, oV oc, SqL.of hq8, at_oV hoc⟩, fun H8 => (j + 1) + (k2 - 1) = r6.length ∧ ∃ l : List Nat, Cmp rN H5 D l H8 ∧ l.length ≤ i * 4000 + (j + 1) ∧ ∀ c, c ∈ l ↔ (∃ (k : Nat) (r : CRow), k < i ∧ rows[k]? = some r ∧ some c ∈ r) ∨ some c ∈ r6.take (j + 1), fun H8 h8 => ⟨k2 - 1, by omega, h8⟩, ?_⟩
            rintro y H8 hy
            obtain ⟨hyy, rfl⟩ : (y = oV oc) ∧ H8 = H7 := by
              obtain ⟨h1, h2⟩ := hy
              have h3 := h2 _ (SqL.of hq8)
              rw [at_oV hoc] at h3
              exact ⟨(Option.some.inj h3).symm, h1⟩
            subst hyy
            have htk : r6.take (j + 1) = r6.take j ++ [oc] := by rw [List.take_add_one, hoc]; rfl
            refine ⟨rfl, _, rfl, rfl, _, rfl, ?_⟩
            cases oc with
            | none =>
              refine iteF ⟨by omega, l7, cm7, by omega, fun c => (hlm7 c).trans ?_⟩
              rw [htk, List.mem_append]
              exact or_congr Iff.rfl ⟨.inl, fun h => h.elim id fun h => by simp at h⟩
            | some d =>
              have hst0 := sd.few
              obtain ⟨acc, a1, a2, a3⟩ := cm7.add (x := d) (y := vN d) (by omega) (Fx.refl _ _) rfl
              refine iteT ⟨_, rfl, acc, a1, a2, by omega, l7 ++ [d], a3, by rw [List.length_append, List.length_singleton]; omega, fun c => ?_⟩
              rw [htk, List.mem_append, List.mem_append, hlm7 c, or_assoc]
              refine or_congr Iff.rfl (or_congr Iff.rfl ?_)
              simp
          · refine .inl ⟨⟨_, SqL.of hq8, by rw [List.length_map]; omega⟩, by omega, l7, cm7, by omega, fun c => (hlm7 c).trans ?_⟩
            rw [List.take_of_length_le (by omega)]
            constructor
            · rintro (⟨k, r, a1, a2, a3⟩ | h)
              · exact ⟨k, r, by omega, a2, a3⟩
              · exact ⟨i, r6, Nat.lt_succ_self i, hr6, h⟩
            · rintro ⟨k, r, a1, a2, a3⟩
              rcases (by omega : k < i ∨ k = i) with z | rfl
              · exact .inl ⟨k, r, z, a2, a3⟩
              · rw [hr6] at a2; cases a2; exact .inr a3
        · refine .inl ⟨⟨_, SqL.of hR6, by rw [List.length_map]; omega⟩, ?_⟩
          have hi2 : i = rows.length := by omega
          subst hi2
          have hmem : ∀ (k : Nat) (r : CRow) (d : Nat), rows[k]? = some r → some d ∈ r → d ∈ l := fun k r d h1 h2 => (hlm d).mpr ⟨k, r, (List.getElem?_eq_some_iff.mp h1).1, h1, h2⟩
          have hne : 0 < l.length := by
            have li := least_is (Mend b m t)
            rw [hc] at li
            obtain ⟨⟨q9, h5, h6⟩, _⟩ := li
            have hok := rs_stok sd.ok.mo h6
            obtain ⟨i9, hi9⟩ := sd.ok.idx hok.1 hok.2
            obtain ⟨c', h7, h8⟩ := hqL.low i9 c0 ((rc_rs sd.ok _ _ _).mpr ⟨_, hi9, h6⟩)
            exact List.length_pos_of_mem (hmem _ _ _ hr2 (List.mem_of_getElem? h7))
          obtain ⟨_, xs0, eF, hFx, hFl⟩ := cm.rl
          cases eF
          have hfn := hFl.nats
          subst hfn
          refine ⟨D, l.map (fun n : Nat => (n : Int)), rfl, by rw [List.map_map]; exact SqL.of hFx, by rw [List.length_map]; exact hne, fun mx h1 h2 => ?_⟩
          obtain ⟨most, hmost, rfl⟩ := List.mem_map.mp h1
          have hmx : ∀ (k : Nat) (r : CRow) (d : Nat), rows[k]? = some r → some d ∈ r → d ≤ most := fun k r d a1 a2 => by
            have := h2 (d : Int) (List.mem_map.mpr ⟨d, hmem k r d a1 a2, rfl⟩)
            omega
          clear h1 h2 hFl hFx
          generalize hFl : (rows.map fun r => r.map fun o => ((o.getD most : Nat) : Int)) = Fl
          have hfl := isfl_rows sd.ok hrl (fun k r h => (hrows5 k (ps[k]'(by have := (List.getElem?_eq_some_iff.mp h).1; omega)) r (List.getElem?_eq_getElem _) h).2) hc hmx
          rw [hFl] at hfl
          have hFln : Fl.length = t.length + 1 := by rw [← hFl, List.length_map]; exact hrl
          have e06 := e05.trans cm.fe
          have hrows6 : ∀ (k : Nat) (q : Addr) (r : CRow), ps[k]? = some q → rows[k]? = some r → H' q = some (.lst (r.map oV)) := fun k q r h1 h2 => cm.fe.k (hrows5 k q r h1 h2).1
          generalize H' = H6 at hR6 e06 hrows6
          refine ⟨_, rfl, _, rfl, Rw, rfl, ⟨_, SqL.of hR6⟩, fun D2 hD2 => lc_list (xs := ps.map V.ref) (fun i H' => Cmp rF H6 D2 (Fl.take i) H') (Cmp.start hD2) (fun i H' hi c => SqL.of (c.fe.k hR6)) (fun i x H' hx c => ?_) (fun H7 c => ?_)⟩
          · obtain ⟨q9, hq9, rfl⟩ : ∃ q9, ps[i]? = some q9 ∧ x = .ref q9 := by
              rw [List.getElem?_map] at hx
              cases z : ps[i]? with
              | none => rw [z] at hx; cases hx
              | some q9 => rw [z] at hx; exact ⟨q9, rfl, (Option.some.inj hx).symm⟩
            have hil := (List.getElem?_eq_some_iff.mp hq9).1
            obtain ⟨r9, hr9⟩ : ∃ r, rows[i]? = some r := ⟨_, List.getElem?_eq_getElem (by omega)⟩
            have hr9l := (hrows5 i q9 r9 hq9 hr9).2.len
            have hfewst := sd.few
            have hq9v := c.fe.k (hrows6 i q9 r9 hq9 hr9)
            have hFli : Fl[i]? = some (r9.map fun o => ((o.getD most : Nat) : Int)) := by rw [← hFl, List.getElem?_map, hr9]; rfl
            refine ⟨rfl, ?_⟩
            refine iteT (B := Cmp rF H6 D2 (Fl.take (i + 1)) H') ?_
            refine ⟨_, rfl, q9, rfl, ⟨_, SqL.of hq9v⟩, fun D3 hD3 => lc_list (xs := r9.map oV) (fun j H2 => Cmp rI H' D3 ((r9.take j).map fun o => ((o.getD most : Nat) : Int)) H2) (Cmp.start hD3) (fun j H2 hj c2 => SqL.of (c2.fe.k hq9v)) (fun j y H2 hy c2 => ?_) (fun H7 c2 => ?_)⟩
            · obtain ⟨oc, hoc, rfl⟩ : ∃ oc, r9[j]? = some oc ∧ y = oV oc := by
                rw [List.getElem?_map] at hy
                cases z : r9[j]? with
                | none => rw [z] at hy; cases hy
                | some oc => rw [z] at hy; exact ⟨oc, rfl, (Option.some.inj hy).symm⟩
              have e : (r9.take (j + 1)).map (fun o => ((o.getD most : Nat) : Int)) = (r9.take j).map (fun o => ((o.getD most : Nat) : Int)) ++ [((oc.getD most : Nat) : Int)] := by rw [List.take_add_one, hoc, List.map_append]; rfl
              have hjl : ((r9.take j).map fun o => ((o.getD most : Nat) : Int)).length < 1000000 := by rw [List.length_map, List.length_take]; omega
              refine ⟨rfl, ?_⟩
              refine iteT (B := Cmp rI H' D3 ((r9.take (j + 1)).map fun o => ((o.getD most : Nat) : Int)) H2) ?_
              rw [e]
              cases oc with
              | none => exact ⟨_, rfl, rfl, _, rfl, iteT ⟨_, rfl, c2.add hjl (Fx.refl _ _) rfl⟩⟩
              | some d => exact ⟨_, rfl, rfl, _, rfl, iteF ⟨_, rfl, c2.add hjl (Fx.refl _ _) rfl⟩⟩
            · rw [List.length_map, List.take_length] at c2
              obtain ⟨_, ys, eD, hD3v, aly⟩ := c2.rl
              cases eD
              have hyi := aly.ints
              refine ⟨D3, _, rfl, .inl ⟨SqL.of hD3v, fun U hU => ?_⟩⟩
              have gU := Fe.new (o := .tup ys) hU
              have e9 : Fl.take (i + 1) = Fl.take i ++ [r9.map fun o => ((o.getD most : Nat) : Int)] := by rw [List.take_add_one, hFli]; rfl
              rw [e9]
              exact c.add (by rw [List.length_take]; omega) (c2.fe.trans gU) ⟨U, rfl, by rw [upd_same, hyi]⟩
          · rw [List.length_map, hpl, ← hFln, List.take_length] at c
            obtain ⟨_, ys, eD, hD2v, aly⟩ := c.rl
            cases eD
            refine ⟨D2, _, rfl, .inl ⟨SqL.of hD2v, fun U hU => ?_⟩⟩
            have gU := Fe.new (o := .tup ys) hU
            refine ⟨by show 2 ≤ sizeLine; decide, fun U2 hU2 => ?_⟩
            have gU2 := Fe.new (o := .tup [vN c0, .ref U]) hU2
            refine ks c0 hc U2 U ys Fl rs' _ (((e06.trans c.fe).trans gU).trans gU2) upd_same (gU2.k upd_same) (Al.mo (gU.trans gU2) aly) hro hFln (fun r hr => ?_) (by rw [← ers]; exact hfl)
            rw [← hFl] at hr
            obtain ⟨r0, h0, rfl⟩ := List.mem_map.mp hr
            obtain ⟨k0, hk0⟩ := List.mem_iff_getElem?.mp h0
            obtain ⟨q0, hq0⟩ : ∃ q0, ps[k0]? = some q0 := ⟨_, List.getElem?_eq_getElem (by have := (List.getElem?_eq_some_iff.mp hk0).1; omega)⟩
            rw [List.length_map, (hrows5 k0 q0 r0 hq0 hk0).2.len, ← ers]
end
end Fm
/-! the law's draws -/
namespace Fm
open PySem L2
theorem Fx.mu {M : List Addr} {H H' : Hp} {q : Addr} {o : HO} (e : Fx M H H') (hq : H q = none) : Fx M H (upd H' q o) :=
  ⟨fun a o' n h => by rw [upd_ne (ne_of_none h hq)]; exact e.keep a o' n h, fun a xs h => by rw [upd_ne (ne_of_none h hq)]; exact e.tups a xs h⟩
theorem Fx.fr {M : List Addr} {H H' : Hp} {q : Addr} (e : Fx M H H') (n : q ∉ M) (h : H' q = none) : H q = none := by
  cases z : H q with
  | none => rfl
  | some o => rw [e.keep q o n z] at h; cases h
/-- the pool at p, its great numbers at g -/
def Pl (H : Hp) (p g : Addr) : Prop := ∃ (s : Int) (gs : List Int), H p = some (.lst [.int s, .ref g]) ∧ H g = some (.lst (gs.map V.int)) ∧ gs.length ≤ 64
theorem Pl.ne {H : Hp} {p g : Addr} (P : Pl H p g) : p ≠ g := by
  obtain ⟨s, gs, h1, h2, _⟩ := P
  intro e
  rw [e, h2] at h1
  have h := HO.lst.inj (Option.some.inj h1)
  cases gs with
  | nil => cases h
  | cons x gs =>
    cases gs with
    | nil => cases h
    | cons y gs =>
      rw [List.map_cons, List.map_cons] at h
      injection h with _ h
      injection h with h _
      cases h
theorem Pl.nw {H : Hp} {p g q : Addr} (P : Pl H p g) (h : H q = none) : q ∉ [p, g] := by
  obtain ⟨s, gs, h1, h2, _⟩ := P
  intro z
  rcases List.mem_cons.mp z with rfl | z
  · rw [h] at h1; cases h1
  · rw [List.mem_singleton.mp z, h2] at h; cases h
theorem Pl.keep {H H' : Hp} {p g : Addr} (P : Pl H p g) (f : Fe H H') : Pl H' p g := by
  obtain ⟨s, gs, h1, h2, h3⟩ := P
  exact ⟨s, gs, f.k h1, f.k h2, h3⟩
theorem Pl.put {H : Hp} {p g q : Addr} {o : HO} (P : Pl H p g) (n : q ∉ [p, g]) : Pl (upd H q o) p g := by
  obtain ⟨s, gs, h1, h2, h3⟩ := P
  exact ⟨s, gs, by rw [upd_ne (fun e => n (by rw [← e]; exact List.mem_cons_self))]; exact h1, by rw [upd_ne (fun e => n (by rw [← e]; exact List.mem_cons_of_mem _ List.mem_cons_self))]; exact h2, h3⟩
def spPool (K : PySem.W.Frag) : Sp := fun vs H Q _ => ∃ (a : Addr) (ns : List Int), vs = [.ref a] ∧ SqL K H a (ns.map V.int) ∧ ns.length ≤ 63 ∧ ∀ (p g : Addr) (H' : Hp), Fe H H' → H p = none → H g = none → Pl H' p g → Q (.ref p) H'
def spDraw : Sp := fun vs H Q _ => ∃ (p g : Addr) (n : Nat), vs = [.ref p, .int (n : Int)] ∧ Pl H p g ∧ 0 < n ∧ n < 1000000 ∧ ∀ (r : Nat) (H' : Hp), Fx [p, g] H H' → Pl H' p g → r < n → Q (.int (r : Int)) H'
theorem cpow60 : CPow 10 60 := ⟨by decide, by decide, by decide +kernel⟩
theorem cpow18 : CPow 10 18 := ⟨by decide, by decide, by decide +kernel⟩
theorem mod_nat (i : Int) {n : Nat} (h : 0 < n) : ∃ r : Nat, i % (n : Int) = (r : Int) ∧ r < n := by
  have h1 := Int.emod_nonneg i (show (n : Int) ≠ 0 by omega)
  have h2 := Int.emod_lt_of_pos i (show (0 : Int) < n by omega)
  exact ⟨(i % (n : Int)).toNat, by omega, by omega⟩
section
variable {P : Program} {w : World} {K : PySem.W.Frag} {g : Str → Option Value} {base : Heap}
theorem ok_law_pool (T : Txt K g) : FnOk P w K g base CX0 1 T.d_law_pool.f T.d_law_pool.fd P_law_pool (spPool K) := by
  refine T.d_law_pool.F.ok sc_law_pool (fun vs H Q E h => ?_) (fun cdv A outer s H vs Q E hr h => ?_)
  · obtain ⟨_, _, rfl, _⟩ := h
    rfl
  · obtain ⟨a, ns, rfl, hs, hlen, kk⟩ := h
    have hu := hu_of hr
    refine ⟨_, (pss_cons (ps_set (i := 1) sc_law_pool.nd rfl (by first | exact Or.inl rfl | exact Or.inr rfl) (pe_op op_mulW (pe_op op_mulW (pe_op op_mulW (pe_op op_mulW (pe_op op_mulW (pe_op op_pow pe_int pe_int) (pe_op op_pow pe_int pe_int)) (pe_op op_pow pe_int pe_int)) (pe_op op_pow pe_int pe_int)) (pe_op op_pow pe_int pe_int)) (pe_op op_pow pe_int pe_int)))
    (pss_cons (ps_set (i := 2) sc_law_pool.nd rfl (by first | exact Or.inl rfl | exact Or.inr rfl) pe_int)
    (pss_cons (ps_set (i := 3) sc_law_pool.nd rfl (by first | exact Or.inl rfl | exact Or.inr rfl) (pe_lst pa_nil))
    (pss_cons (ps_for PassesOwn.never rfl (ki_list (K := K) rfl (pv 0)) (pg_name (i := 4) sc_law_pool.nd rfl (by first | exact Or.inl rfl | exact Or.inr rfl))
      (pss_cons (ps_set (i := 2) sc_law_pool.nd rfl (by first | exact Or.inl rfl | exact Or.inr rfl) (pe_op op_mod (pe_op op_add (pe_op op_add (pe_op op_mul (pv 2) pe_int) (pe_op op_mul (pe_op op_mod (pe_callTy call_int1 (by rfl) T.z_int (by decide +kernel) (pa_cons (pv 4) pa_nil)) pe_int) pe_int)) pe_int) pe_int))
      (pss_one (ps_if (pt_cmpR op_ge (pe_callTy call_int1 (by rfl) T.z_int (by decide +kernel) (pa_cons (pv 4) pa_nil)) (pe_op op_pow pe_int pe_int) (nomark _))
        (pss_one (ps_expr (ke_bm (K := K) rfl PySem.F.plainAttrs_list PySem.F.slot_list_append PySem.F.type_list_append mt_append (pv 3) (pa_cons (pe_op op_mod (pe_callTy call_int1 (by rfl) T.z_int (by decide +kernel) (pa_cons (pv 4) pa_nil)) (pv 1)) pa_nil))))
        pss_nil))))
    (pss_one (ps_ret (pe_lst (pa_cons (pe_op op_add (pv 2) pe_int) (pa_cons (ke_rev (K := K) rfl (pv 3)) pa_nil))))))))), ?_⟩
    refine ⟨_, _, rfl, rfl, cpow60, _, _, rfl, rfl, cpow60, _, _, rfl, rfl, (by unfold CMulW; decide +kernel), _, _, rfl, rfl, cpow60, _, _, rfl, rfl, (by unfold CMulW; decide +kernel), _, _, rfl, rfl, cpow60, _, _, rfl, rfl, (by unfold CMulW; decide +kernel), _, _, rfl, rfl, cpow60, _, _, rfl, rfl, (by unfold CMulW; decide +kernel), _, _, rfl, rfl, cpow60, _, _, rfl, rfl, (by unfold CMulW; decide +kernel), ?_⟩
    refine ⟨Nat.zero_le _, fun G hG => ?_⟩
    have e0 : Fe H (upd H G (.lst [])) := Fe.new hG
    refine ⟨_, rfl, a, rfl, ⟨_, e0.same.seq hs⟩, for_list (K := K) (a := a) (xs := ns.map V.int) (fun i σ' H' => ∃ (most st : Int) (gs : List Int) (o4 : Option V), σ' = [some (.ref a), some (.int most), some (.int st), some (.ref G), o4] ∧ 0 < most ∧ Fe H H' ∧ H' G = some (.lst (gs.map V.int)) ∧ gs.length ≤ i)
      ⟨_, 10103, [], none, rfl, by decide +kernel, e0, upd_same, Nat.le_refl _⟩ (fun i σ' H' _ ⟨_, _, _, _, _, _, e, _⟩ => e.same.seq hs) ?_ ?_⟩
    · rintro i x σ' H' hx ⟨most, st, gs, o4, rfl, hm0, e, hGl, hl⟩
      have hi : i < ns.length := by
        have := (List.getElem?_eq_some_iff.mp hx).1
        rwa [List.length_map] at this
      rw [List.getElem?_map, List.getElem?_eq_getElem hi] at hx
      cases hx
      generalize ns[i] = c
      refine ⟨_, rfl, _, _, rfl, rfl, .inr (by decide), _, rfl, .inl ⟨_, rfl, _, _, rfl, rfl, (by show (0 : Int) < 998244353; decide), _, _, rfl, rfl, .inr (by decide), _, _, rfl, rfl, _, _, rfl, rfl, _, _, rfl, rfl, (by show (0 : Int) < 2147483543; decide), ?_⟩⟩
      refine ⟨_, rfl, .inl ⟨_, rfl, _, _, rfl, rfl, cpow18, _, _, rfl, rfl, _, rfl, ?_⟩⟩
      refine ite2 (fun _ => ?_) (fun _ => ?_)
      · refine ⟨_, rfl, .inl ⟨rfl, _, SqL.of hGl⟩, _, rfl, .inl ⟨_, rfl, _, rfl, _, _, rfl, rfl, hm0, G, _, _, rfl, rfl, hGl, by rw [List.length_map, sizeLine_eq]; omega, ?_⟩⟩
        exact ⟨most, _, gs ++ [c % most], _, rfl, hm0, e.mut hG, by rw [upd_same, List.map_append]; rfl, by rw [List.length_append, List.length_singleton]; omega⟩
      · exact ⟨most, _, gs, _, rfl, hm0, e, hGl, by omega⟩
    · rintro σ' H' ⟨most, st, gs, o4, rfl, hm0, e, hGl, hl⟩
      rw [List.length_map] at hl
      refine ⟨_, rfl, _, _, rfl, rfl, _, rfl, G, _, rfl, SqL.of hGl, fun g hg => ⟨by show 2 ≤ sizeLine; decide, fun p hp => ?_⟩⟩
      have f1 := Fe.new (o := .lst (gs.map V.int).reverse) hg
      have f2 := f1.trans (Fe.new (o := .lst [.int (st + 1), .ref g]) hp)
      refine kk p g _ (e.trans f2) (e.free (f1.free hp)) (e.free hg) ⟨st + 1, gs.reverse, upd_same, ?_, by rw [List.length_reverse]; omega⟩
      rw [upd_ne (ne_of_none upd_same hp), upd_same, List.map_reverse]
theorem ok_law_draw (T : Txt K g) : FnOk P w K g base CX0 1 T.d_law_draw.f T.d_law_draw.fd P_law_draw spDraw := by
  refine T.d_law_draw.F.ok sc_law_draw (fun vs H Q E h => ?_) (fun cdv A outer s H vs Q E hr h => ?_)
  · obtain ⟨_, _, _, rfl, _⟩ := h
    rfl
  · obtain ⟨p, g, n, rfl, hP, hn0, hn, kk⟩ := h
    have hu := hu_of hr
    refine ⟨_, (pss_cons (ps_set (i := 2) sc_law_draw.nd rfl (by first | exact Or.inl rfl | exact Or.inr rfl) (pe_ix (kx_list (K := K) rfl) (pv 0) pe_int (fun _ _ => rfl)))
    (pss_cons (ps_if (pt_cmpR op_gt (pe_callB (kc_len (K := K) rfl) (by rfl) T.z_len PySem.boot_len (pa_cons (pv 2) pa_nil)) pe_int (nomark _))
      (pss_cons (ps_set (i := 3) sc_law_draw.nd rfl (by first | exact Or.inl rfl | exact Or.inr rfl) (pe_callTy call_int1 (by rfl) T.z_int (by decide +kernel) (pa_cons (ke_bm0 (K := K) rfl PySem.F.plainAttrs_list PySem.F.slot_list_pop PySem.F.type_list_pop mt_pop (pv 2)) pa_nil)))
      (pss_cons (ps_if (pt_cmpR op_ge (pv 3) (pv 1) (nomark _))
        (pss_one (ps_expr (ke_bm (K := K) rfl PySem.F.plainAttrs_list PySem.F.slot_list_append PySem.F.type_list_append mt_append (pv 2) (pa_cons (pe_op op_fdiv (pv 3) (pv 1)) pa_nil))))
        pss_nil)
      (pss_one (ps_ret (pe_op op_mod (pe_callTy call_int1 (by rfl) T.z_int (by decide +kernel) (pa_cons (pv 3) pa_nil)) (pv 1))))))
      pss_nil)
    (pss_cons (ps_set (i := 4) sc_law_draw.nd rfl (by first | exact Or.inl rfl | exact Or.inr rfl) (pe_op op_mod (pe_op op_mul (pe_callTy call_int1 (by rfl) T.z_int (by decide +kernel) (pa_cons (pe_ix (kx_list (K := K) rfl) (pv 0) pe_int (fun _ _ => rfl)) pa_nil)) pe_int) pe_int))
    (pss_cons (ps_asg (pv 4) (pg_sub (pv 0) pe_int set_list))
    (pss_one (ps_ret (pe_op op_mod (pe_op op_fdiv (pv 4) pe_int) (pv 1)))))))), ?_⟩
    have hne := hP.ne
    obtain ⟨st, gs, hp, hg, hl⟩ := id hP
    refine ⟨_, rfl, p, _, _, _, rfl, rfl, SqL.of hp, atI_nat (j := 1) rfl, ?_⟩
    refine ⟨_, rfl, g, _, rfl, .inl (SqL.of hg), _, _, rfl, rfl, _, rfl, ?_⟩
    cases gs with
    | cons g0 gs0 =>
      rw [decide_eq_true (show ((((g0 :: gs0).map V.int).length : Nat) : Int) > 0 by rw [List.length_map, List.length_cons]; omega)]
      refine iteT ?_
      generalize hgs : g0 :: gs0 = gs at hg hl
      have hne2 : gs ≠ [] := by rw [← hgs]; exact fun z => nomatch z
      clear hgs g0 gs0
      have hd := List.dropLast_concat_getLast hne2
      generalize gs.getLast hne2 = last at hd
      generalize gs.dropLast = rest at hd
      subst hd
      have hlast : ((rest ++ [last]).map V.int)[((rest ++ [last]).map V.int).length - 1]? = some (.int last) := by
        rw [List.map_append, List.length_append, List.getElem?_append_right (by simp)]
        simp
      have hdl : ((rest ++ [last]).map V.int).dropLast = rest.map V.int := by
        rw [List.map_append]; simp
      rw [List.length_append, List.length_singleton] at hl
      have f1 : Fx [p, g] H (upd H g (.lst (rest.map V.int))) := Fx.put hg (by simp) (fun _ z => nomatch z)
      have P1 : Pl (upd H g (.lst (rest.map V.int))) p g := ⟨st, rest, by rw [upd_ne hne]; exact hp, upd_same, by omega⟩
      refine ⟨_, rfl, .inl ⟨rfl, _, SqL.of hg⟩, g, _, _, rfl, rfl, hg, hlast, .inl ⟨_, rfl, ?_⟩⟩
      rw [hdl]
      refine ⟨_, rfl, _, rfl, _, _, rfl, rfl, _, rfl, ?_⟩
      obtain ⟨r, hr1, hr2⟩ := mod_nat last hn0
      refine ite2 (fun _ => ?_) (fun _ => ?_)
      · refine ⟨_, rfl, .inl ⟨rfl, _, SqL.of upd_same⟩, _, rfl, _, rfl, _, _, rfl, rfl, ⟨by omega, by omega⟩, g, _, _, rfl, rfl, upd_same, by rw [List.length_map, sizeLine_eq]; omega, ?_⟩
        have f2 : Fx [p, g] (upd H g (.lst (rest.map V.int))) (upd (upd H g (.lst (rest.map V.int))) g (.lst (rest.map V.int ++ [.int (last / (n : Int))]))) := Fx.put upd_same (by simp) (fun _ z => nomatch z)
        refine ⟨_, rfl, .inl ⟨_, rfl, _, rfl, _, _, rfl, rfl, (by show (0 : Int) < (n : Int); omega), ?_⟩⟩
        show Q (.int (last % (n : Int))) _
        rw [hr1]
        refine kk r _ (f1.trans f2) ⟨st, rest ++ [last / (n : Int)], by rw [upd_ne hne, upd_ne hne]; exact hp, by rw [upd_same, List.map_append]; rfl, by rw [List.length_append, List.length_singleton]; omega⟩ hr2
      · refine ⟨_, rfl, .inl ⟨_, rfl, _, rfl, _, _, rfl, rfl, (by show (0 : Int) < (n : Int); omega), ?_⟩⟩
        show Q (.int (last % (n : Int))) _
        rw [hr1]
        exact kk r _ f1 P1 hr2
    | nil =>
      rw [decide_eq_false (show ¬ ((((([] : List Int).map V.int).length : Nat) : Int) > 0) by simp)]
      refine iteF ?_
      refine ⟨_, rfl, p, _, _, _, rfl, rfl, SqL.of hp, atI_nat (j := 0) rfl, .inl ⟨_, rfl, _, _, rfl, rfl, .inr (by decide), _, _, rfl, rfl, (by show (0 : Int) < 2147483647; decide), ?_⟩⟩
      refine ⟨_, rfl, _, rfl, p, _, _, 0, rfl, rfl, hp, rfl, ?_⟩
      obtain ⟨r, hr1, hr2⟩ := mod_nat (st * 69621 % 2147483647 / 31) hn0
      refine ⟨_, rfl, _, _, rfl, rfl, ⟨by decide, by decide⟩, _, rfl, _, _, rfl, rfl, (by show (0 : Int) < (n : Int); omega), ?_⟩
      show Q (.int (st * 69621 % 2147483647 / 31 % (n : Int))) _
      rw [hr1]
      refine kk r _ (Fx.put hp (by simp) (fun _ z => nomatch z)) ⟨st * 69621 % 2147483647, [], upd_same, by rw [upd_ne hne.symm]; exact hg, by simp⟩ hr2
end
end Fm
namespace Fm
open PySem L2
abbrev s1 (c : Nat) : V := .str ⟨#[c]⟩
def alph : List Nat := (List.range 26).map (· + 97)
theorem alph_eq : ("abcdefghijklmnopqrstuvwxyz" : Str) = ⟨alph.toArray⟩ := by decide +kernel
theorem alph_nd : alph.Nodup := by decide +kernel
def spLetters : Sp := fun vs H Q _ => ∃ (p g : Addr) (n : Nat), vs = [.ref p, .int (n : Int)] ∧ Pl H p g ∧ 0 < n ∧ n ≤ 20 ∧ ∀ (l : List Nat) (H' : Hp), Fx [p, g] H H' → Pl H' p g → l.Nodup → l ≠ [] → l.length ≤ n → Q (.str ⟨l.toArray⟩) H'
def spText : Sp := fun vs H Q _ => ∃ (p g : Addr) (ls : List Nat) (n : Nat), vs = [.ref p, .str ⟨ls.toArray⟩, .int (n : Int)] ∧ Pl H p g ∧ ls ≠ [] ∧ ls.length ≤ 1000 ∧ n ≤ 1000 ∧ ∀ (t : List Nat) (H' : Hp), Fx [p, g] H H' → Pl H' p g → (∀ x ∈ t, x ∈ ls) → t.length ≤ n → Q (.str ⟨t.toArray⟩) H'
def spPair : Sp := fun vs H Q _ => ∃ (p g : Addr), vs = [.ref p] ∧ Pl H p g ∧ ∀ (q : Addr) (a b : Nat) (H' : Hp), Fx [p, g] H H' → Pl H' p g → H' q = some (.lst [s1 a, s1 b]) → a ≠ b → Q (.ref q) H'
theorem str_app (a : List Nat) (c : Nat) : (⟨(a ++ [c]).toArray⟩ : Str) = ⟨a.toArray⟩ ++ ⟨#[c]⟩ := by
  have := SX.S_cat a [c]
  exact this.symm
theorem map_erase {α β : Type} (f : α → β) : ∀ (l : List α) (k : Nat), (l.map f).eraseIdx k = (l.eraseIdx k).map f
  | [], _ => rfl
  | _ :: _, 0 => rfl
  | x :: l, k + 1 => by rw [List.map_cons, List.eraseIdx_cons_succ, List.eraseIdx_cons_succ, List.map_cons, map_erase f l k]
theorem erase_at {l : List Nat} {k : Nat} {y : Nat} (h : l[k]? = some y) : (y :: l.eraseIdx k).Perm l := erase_perm l k y h
section
variable {P : Program} {w : World} {K : PySem.W.Frag} {g : Str → Option Value} {base : Heap}
theorem ok_law_letters (T : Txt K g) : FnOk P w K g base CX0 2 T.d_law_letters.f T.d_law_letters.fd P_law_letters spLetters := by
  refine T.d_law_letters.F.ok sc_law_letters (fun vs H Q E h => ?_) (fun cdv A outer s H vs Q E hr h => ?_)
  · obtain ⟨_, _, _, rfl, _⟩ := h
    rfl
  · obtain ⟨p, g, n, rfl, hP, hn0, hn, kk⟩ := h
    have hu := hu_of hr
    refine ⟨_, (pss_cons (ps_set (i := 2) sc_law_letters.nd rfl (by first | exact Or.inl rfl | exact Or.inr rfl) (pe_callTy (kc_listS rfl) (by rfl) T.z_list (by decide +kernel) (pa_cons pe_str pa_nil)))
    (pss_cons (ps_set (i := 3) sc_law_letters.nd rfl (by first | exact Or.inl rfl | exact Or.inr rfl) (pe_lst pa_nil))
    (pss_cons (ps_for PassesOwn.never rfl (pi_range1 rfl T.z_range (pa_cons (pe_op op_add pe_int (pe_call (ok_law_draw T) (hr.mono (by decide)) rfl T.d_law_draw.mg T.d_law_draw.kp T.d_law_draw.b .nil pass0 (pa_cons (pv 0) (pa_cons (pv 1) pa_nil)))) pa_nil)) (pg_name (i := 4) sc_law_letters.nd rfl (by first | exact Or.inl rfl | exact Or.inr rfl))
      (pss_one (ps_expr (ke_bm (K := K) rfl PySem.F.plainAttrs_list PySem.F.slot_list_append PySem.F.type_list_append mt_append (pv 3) (pa_cons (ke_bm (K := K) rfl PySem.F.plainAttrs_list PySem.F.slot_list_pop PySem.F.type_list_pop mt_popAt (pv 2) (pa_cons (pe_call (ok_law_draw T) (hr.mono (by decide)) rfl T.d_law_draw.mg T.d_law_draw.kp T.d_law_draw.b .nil pass0 (pa_cons (pv 0) (pa_cons (pe_callB (kc_len (K := K) rfl) (by rfl) T.z_len PySem.boot_len (pa_cons (pv 2) pa_nil)) pa_nil))) pa_nil)) pa_nil)))))
    (pss_one (ps_ret (pe_join pe_str (pe_callB (kc_sortedS (K := K) rfl) (by rfl) T.z_sorted (by decide +kernel) (pa_cons (pv 3) pa_nil)))))))), ?_⟩
    refine ⟨alph, by rw [← alph_eq], by decide +kernel, fun L hL => ⟨Nat.zero_le _, fun F hF => ?_⟩⟩
    have hLF : L ≠ F := ne_of_none upd_same hF
    have f0 : Fe H (upd (upd H L (.lst (alph.map s1))) F (.lst [])) := (Fe.new hL).trans (Fe.new hF)
    have P0 := hP.keep f0
    have hF0 : H F = none := (Fe.new hL).free hF
    have nL := hP.nw hL
    have nF := hP.nw hF0
    refine ⟨_, rfl, _, rfl, p, g, n, rfl, P0, hn0, by omega, fun r H1 f1 P1 hr1 => ⟨_, _, rfl, rfl, _, rfl, by omega, by omega, ?_⟩⟩
    have hcn : (1 + (r : Int)).toNat = 1 + r := by omega
    rw [hcn]
    refine for_range (lo := 0) (n := 1 + r) (fun i σ' H' => ∃ (lf fd : List Nat) (o4 : Option V), σ' = [some (.ref p), some (.int (n : Int)), some (.ref L), some (.ref F), o4] ∧ Fx [p, g] H H' ∧ Pl H' p g ∧ H' L = some (.lst (lf.map s1)) ∧ H' F = some (.lst (fd.map s1)) ∧ (fd ++ lf).Nodup ∧ fd.length + lf.length = 26 ∧ fd.length = i)
      ⟨alph, [], none, rfl, f0.to.trans f1, P1, f1.keep _ _ nL (by rw [upd_ne hLF]; exact upd_same), f1.keep _ _ nF upd_same, alph_nd, by decide +kernel, rfl⟩ ?_ ?_
    · rintro i σ' H' hi ⟨lf, fd, o4, rfl, f2, P2, h1, h2, nd, h26, hl⟩
      refine ⟨_, rfl, .inl ⟨rfl, _, SqL.of h2⟩, _, rfl, .inl ⟨rfl, _, SqL.of h1⟩, _, rfl, _, rfl, L, _, rfl, .inl (SqL.of h1), ?_⟩
      refine ⟨p, g, lf.length, by rw [List.length_map]; rfl, P2, by omega, by omega, fun k H3 f3 P3 hk => ?_⟩
      have h13 := f3.keep _ _ nL h1
      have h23 := f3.keep _ _ nF h2
      have hlk : lf[k]? = some lf[k] := List.getElem?_eq_getElem hk
      revert hlk
      generalize lf[k] = y
      intro hlk
      have pm := erase_at hlk
      have hk' : k < (lf.map s1).length := by rw [List.length_map]; exact hk
      refine ⟨L, _, _, k, s1 y, rfl, rfl, h13, by omega, by omega, (ixN_seq (ixn hk')).1, by rw [List.getElem?_map, hlk]; rfl, F, fd.map s1, _, rfl, rfl, ?_, by rw [List.length_map, sizeLine_eq]; omega, ?_⟩
      · rw [upd_ne hLF.symm]; exact h23
      have hpl := pm.length_eq
      rw [List.length_cons] at hpl
      refine ⟨lf.eraseIdx k, fd ++ [y], _, rfl, ((f2.trans f3).mu hL).mu hF0, (P3.put nL).put nF, ?_, by rw [upd_same, List.map_append]; rfl, ?_, by rw [List.length_append, List.length_singleton]; omega, by rw [List.length_append, List.length_singleton]; omega⟩
      · rw [upd_ne hLF, upd_same, map_erase]
      · rw [List.append_assoc]
        exact (pm.append_left fd).nodup_iff.mpr nd
    · rintro σ' H' ⟨lf, fd, o4, rfl, f2, P2, h1, h2, nd, h26, hl⟩
      refine ⟨⟨_, rfl⟩, _, rfl, F, fd.map fun c => SX.S [c], rfl, by rw [List.map_map]; exact SqL.of h2, by rw [List.length_map]; omega, fun ys q hpm hsrt hq => ?_⟩
      obtain ⟨l, rfl, hpl⟩ := perm_strs (ys := ys) (ks := fd.map fun c => [c]) (by rw [List.map_map]; exact hpm)
      obtain ⟨l2, rfl, hpl2⟩ := perm_lift (fun c : Nat => [c]) hpl fd rfl
      have hll := hpl2.length_eq
      refine ⟨_, q, _, rfl, rfl, .inl (SqL.of upd_same), ?_, ?_⟩
      · have : ∀ l : List Nat, (((l.map fun c => [c]).map sS).map (·.length)).sum = l.length := by
          intro l
          induction l with
          | nil => rfl
          | cons x l ih => rw [List.map_cons, List.map_cons, List.map_cons, List.sum_cons, ih, List.length_cons]; show 1 + l.length = l.length + 1; omega
        rw [this, List.length_map, List.length_map]
        show _ + _ * 0 ≤ _
        omega
      · rw [str_nil]
        show Q (.str (PySem.Txt.join ⟨([] : List Nat).toArray⟩ ((l2.map fun c => [c]).map SX.S))) _
        rw [join_chars]
        refine kk l2 _ (f2.trans (Fe.new hq).to) (P2.keep (Fe.new hq)) (hpl2.nodup_iff.mpr (List.nodup_append.mp nd).1) (fun z => ?_) (by omega)
        rw [z] at hll
        simp at hll
        omega
theorem ok_law_text (T : Txt K g) : FnOk P w K g base CX0 2 T.d_law_text.f T.d_law_text.fd P_law_text spText := by
  refine T.d_law_text.F.ok sc_law_text (fun vs H Q E h => ?_) (fun cdv A outer s H vs Q E hr h => ?_)
  · obtain ⟨_, _, _, _, rfl, _⟩ := h
    rfl
  · obtain ⟨p, g, ls, n, rfl, hP, hls, hl1, hn, kk⟩ := h
    have hu := hu_of hr
    refine ⟨_, (pss_cons (ps_set (i := 3) sc_law_text.nd rfl (by first | exact Or.inl rfl | exact Or.inr rfl) pe_str)
    (pss_cons (ps_for PassesOwn.never rfl (pi_range1 rfl T.z_range (pa_cons (pe_call (ok_law_draw T) (hr.mono (by decide)) rfl T.d_law_draw.mg T.d_law_draw.kp T.d_law_draw.b .nil pass0 (pa_cons (pv 0) (pa_cons (pe_op op_add (pv 2) pe_int) pa_nil))) pa_nil)) (pg_name (i := 4) sc_law_text.nd rfl (by first | exact Or.inl rfl | exact Or.inr rfl))
      (pss_one (ps_set (i := 3) sc_law_text.nd rfl (by first | exact Or.inl rfl | exact Or.inr rfl) (pe_op op_add_str (pv 3) (pe_ix ix_str (pv 1) (pe_call (ok_law_draw T) (hr.mono (by decide)) rfl T.d_law_draw.mg T.d_law_draw.kp T.d_law_draw.b .nil pass0 (pa_cons (pv 0) (pa_cons (pe_callB kc_lenS (by rfl) T.z_len PySem.boot_len (pa_cons (pv 1) pa_nil)) pa_nil))) (fun _ _ => rfl))))))
    (pss_one (ps_ret (pv 3))))), ?_⟩
    refine ⟨_, rfl, _, rfl, _, _, rfl, rfl, p, g, n + 1, rfl, hP, by omega, by omega, fun r H1 f1 P1 hr1 => ⟨_, rfl, by omega, by omega, ?_⟩⟩
    have hcn : (r : Int).toNat = r := by omega
    rw [hcn]
    refine for_range (lo := 0) (n := r) (fun i σ' H' => ∃ (t : List Nat) (o4 : Option V), σ' = [some (.ref p), some (.str ⟨ls.toArray⟩), some (.int (n : Int)), some (.str ⟨t.toArray⟩), o4] ∧ Fx [p, g] H H' ∧ Pl H' p g ∧ (∀ x ∈ t, x ∈ ls) ∧ t.length = i)
      ⟨[], none, by rw [← str_nil]; rfl, f1, P1, (fun _ z => nomatch z), rfl⟩ ?_ ?_
    · rintro i σ' H' hi ⟨t, o4, rfl, f2, P2, ht, hl⟩
      have hpos : 0 < ls.length := List.length_pos_iff.mpr hls
      refine ⟨_, rfl, _, rfl, _, rfl, _, rfl, _, rfl, by rw [slen, sizeLine_eq]; omega, p, g, ls.length, by rw [slen]; rfl, P2, hpos, by omega, fun k H3 f3 P3 hk => ?_⟩
      have hlk : ls[k]? = some ls[k] := List.getElem?_eq_getElem hk
      refine ⟨_, _, ls[k], rfl, rfl, by rw [slen, sizeLine_eq]; omega, atI_nat hlk, _, _, rfl, rfl, by rw [slen, sizeLine_eq]; show t.length + 1 ≤ _; omega, ?_⟩
      refine ⟨t ++ [ls[k]], _, by rw [str_app]; rfl, f2.trans f3, P3, fun x hx => ?_, by rw [List.length_append, List.length_singleton]; omega⟩
      rcases List.mem_append.mp hx with hx | hx
      · exact ht x hx
      · rw [List.mem_singleton.mp hx]; exact List.getElem_mem hk
    · rintro σ' H' ⟨t, o4, rfl, f2, P2, ht, hl⟩
      exact ⟨_, rfl, kk t H' f2 P2 ht (by omega)⟩
theorem ok_law_pair (T : Txt K g) : FnOk P w K g base CX0 2 T.d_law_pair.f T.d_law_pair.fd P_law_pair spPair := by
  refine T.d_law_pair.F.ok sc_law_pair (fun vs H Q E h => ?_) (fun cdv A outer s H vs Q E hr h => ?_)
  · obtain ⟨_, _, rfl, _⟩ := h
    rfl
  · obtain ⟨p, g, rfl, hP, kk⟩ := h
    have hu := hu_of hr
    refine ⟨_, (pss_cons (ps_set (i := 1) sc_law_pair.nd rfl (by first | exact Or.inl rfl | exact Or.inr rfl) (pe_call (ok_law_draw T) (hr.mono (by decide)) rfl T.d_law_draw.mg T.d_law_draw.kp T.d_law_draw.b .nil pass0 (pa_cons (pv 0) (pa_cons pe_int pa_nil))))
    (pss_cons (ps_set (i := 2) sc_law_pair.nd rfl (by first | exact Or.inl rfl | exact Or.inr rfl) (pe_op op_add (pe_op op_add (pv 1) pe_int) (pe_call (ok_law_draw T) (hr.mono (by decide)) rfl T.d_law_draw.mg T.d_law_draw.kp T.d_law_draw.b .nil pass0 (pa_cons (pv 0) (pa_cons (pe_op op_sub pe_int (pv 1)) pa_nil)))))
    (pss_one (ps_ret (pe_lst (pa_cons (pe_ix ix_str pe_str (pv 1) (fun _ _ => rfl)) (pa_cons (pe_ix ix_str pe_str (pv 2) (fun _ _ => rfl)) pa_nil))))))), ?_⟩
    refine ⟨_, rfl, p, g, 25, rfl, hP, by decide, by decide, fun r H1 f1 P1 hr1 => ?_⟩
    refine ⟨_, rfl, _, _, rfl, rfl, _, rfl, _, rfl, _, _, rfl, rfl, p, g, 25 - r, ?_, P1, by omega, by omega, fun k H2 f2 P2 hk => ?_⟩
    · show [V.ref p, V.int (25 - (r : Int))] = _
      rw [show (25 - (r : Int)) = ((25 - r : Nat) : Int) by omega]
    have h1 : r < alph.length := by show r < 26; omega
    have h2 : r + 1 + k < alph.length := by show _ < 26; omega
    have g1 : alph[r]? = some alph[r] := List.getElem?_eq_getElem h1
    have g2 : alph[r + 1 + k]? = some alph[r + 1 + k] := List.getElem?_eq_getElem h2
    have a1 : atI (("abcdefghijklmnopqrstuvwxyz" : Str).cps.toList) (r : Int) = some alph[r] := by rw [alph_eq]; exact atI_nat g1
    have a2 : atI (("abcdefghijklmnopqrstuvwxyz" : Str).cps.toList) ((r : Int) + 1 + (k : Int)) = some alph[r + 1 + k] := by
      rw [alph_eq, show ((r : Int) + 1 + (k : Int)) = ((r + 1 + k : Nat) : Int) by omega]; exact atI_nat g2
    refine ⟨_, _, rfl, rfl, _, rfl, _, _, _, rfl, rfl, by decide +kernel, a1, _, rfl, _, _, _, rfl, rfl, by decide +kernel, a2, by show 2 ≤ sizeLine; decide, fun q hq => ?_⟩
    refine kk q _ _ _ ((f1.trans f2).trans (Fe.new hq).to) (P2.keep (Fe.new hq)) upd_same fun z => ?_
    have := nd_ix alph_nd g1 (z ▸ g2)
    omega
end
end Fm
namespace Fm
open PySem L2
abbrev rStep : Rp (Nat × Nat × Nat) := rP3 rN rC rN
def stK (s : Nat × Nat × Nat) : List Key := [kN s.1, kS [s.2.1], kN s.2.2]
theorem step_key {H : Hp} {v : V} {s : Nat × Nat × Nat} (h : rStep H v s) : ∃ a, v = .ref a ∧ H a = some (.tup ((stK s).map kV)) := by
  obtain ⟨a, x, y, z, rfl, ha, rfl, rfl, rfl⟩ := h
  exact ⟨a, rfl, ha⟩
theorem step_back {H : Hp} {a : Addr} {s : Nat × Nat × Nat} (h : H a = some (.tup ((stK s).map kV))) : rStep H (.ref a) s := ⟨a, _, _, _, rfl, h, rfl, rfl, rfl⟩
/-- behind set(steps), sorted(..): what comes back -/
theorem steps_back {H H3 : Hp} {sts : List (Nat × Nat × Nat)} {ks L L' : TL} (hk : ∀ p ∈ ks, ∃ x, x ∈ sts ∧ p.2 = stK x ∧ H p.1 = some (.tup (p.2.map kV))) (hsub : ∀ p ∈ L, p ∈ ks) (hpm : L'.Perm L) (f : Fe H H3) :
    ∃ ys, Al rStep H3 (L'.map fun p => V.ref p.1) ys ∧ (∀ y ∈ ys, y ∈ sts) ∧ ys.length = L.length := by
  obtain ⟨ys, h1, h2, h3⟩ := tl_back (r := rStep) stK (fun a x h => step_back h) sts L' fun p hp => by
    obtain ⟨x, hx, e, h⟩ := hk p (hsub p (hpm.mem_iff.mp hp))
    exact ⟨x, hx, e, f.k h⟩
  refine ⟨ys, h1, h2, ?_⟩
  have := congrArg List.length h3
  rw [List.length_map, List.length_map, hpm.length_eq] at this
  exact this
def spMachine : Sp := fun vs H Q _ => ∃ (p g : Addr) (ls : List Nat) (n : Nat), vs = [.ref p, .str ⟨ls.toArray⟩, .int (n : Int)] ∧ Pl H p g ∧ ls ≠ [] ∧ ls.length ≤ 1000 ∧ 0 < n ∧ n ≤ 20 ∧
  ∀ (v : V) (m : Mach) (H' : Hp), Fx [p, g] H H' → Pl H' p g → rMach H' v m → MOk m → m.1 ≤ n → (∀ s ∈ m.2.2, s.2.1 ∈ ls) → m.2.2.length ≤ 10 → m.2.1.length ≤ 20 → Q v H'
section
variable {P : Program} {w : World} {K : PySem.W.Frag} {g : Str → Option Value} {base : Heap}
theorem ok_law_machine (T : Txt K g) : FnOk P w K g base CX0 2 T.d_law_machine.f T.d_law_machine.fd P_law_machine spMachine := by
  refine T.d_law_machine.F.ok sc_law_machine (fun vs H Q E h => ?_) (fun cdv A outer s H vs Q E hr h => ?_)
  · obtain ⟨_, _, _, _, rfl, _⟩ := h
    rfl
  · obtain ⟨p, g, ls, n, rfl, hP, hls, hl1, hn0, hn, kk⟩ := h
    have hu := hu_of hr
    refine ⟨_, (pss_cons (ps_set (i := 3) sc_law_machine.nd rfl (by first | exact Or.inl rfl | exact Or.inr rfl) (pe_op op_add pe_int (pe_call (ok_law_draw T) (hr.mono (by decide)) rfl T.d_law_draw.mg T.d_law_draw.kp T.d_law_draw.b .nil pass0 (pa_cons (pv 0) (pa_cons (pv 2) pa_nil)))))
    (pss_cons (ps_set (i := 4) sc_law_machine.nd rfl (by first | exact Or.inl rfl | exact Or.inr rfl) (pe_lst pa_nil))
    (pss_cons (ps_for PassesOwn.never rfl (pi_range1 rfl T.z_range (pa_cons (pe_call (ok_law_draw T) (hr.mono (by decide)) rfl T.d_law_draw.mg T.d_law_draw.kp T.d_law_draw.b .nil pass0 (pa_cons (pv 0) (pa_cons pe_int pa_nil))) pa_nil)) (pg_name (i := 5) sc_law_machine.nd rfl (by first | exact Or.inl rfl | exact Or.inr rfl))
      (pss_one (ps_expr (ke_bm (K := K) rfl PySem.F.plainAttrs_list PySem.F.slot_list_append PySem.F.type_list_append mt_append (pv 4) (pa_cons (pe_tup (pa_cons (pe_call (ok_law_draw T) (hr.mono (by decide)) rfl T.d_law_draw.mg T.d_law_draw.kp T.d_law_draw.b .nil pass0 (pa_cons (pv 0) (pa_cons (pv 3) pa_nil))) (pa_cons (pe_ix ix_str (pv 1) (pe_call (ok_law_draw T) (hr.mono (by decide)) rfl T.d_law_draw.mg T.d_law_draw.kp T.d_law_draw.b .nil pass0 (pa_cons (pv 0) (pa_cons (pe_callB kc_lenS (by rfl) T.z_len PySem.boot_len (pa_cons (pv 1) pa_nil)) pa_nil))) (fun _ _ => rfl)) (pa_cons (pe_call (ok_law_draw T) (hr.mono (by decide)) rfl T.d_law_draw.mg T.d_law_draw.kp T.d_law_draw.b .nil pass0 (pa_cons (pv 0) (pa_cons (pv 3) pa_nil))) pa_nil)))) pa_nil)))))
    (pss_cons (ps_setLc (i := 6) (own := [("q", 7)]) rfl sc_law_machine.nd rfl rfl (sw_true rfl rfl rfl (by decide +kernel)) (pi_range1 rfl T.z_range (pa_cons (pv 3) pa_nil)) (blkOk_by (N := N_law_machine) (sc := defScope s_law_machine) (by decide +kernel)) (fun _ _ _ _ _ => by exact (pg_name (i := 7) sc_law_machine.nd rfl (by first | exact Or.inl rfl | exact Or.inr rfl))) (fun _ _ _ _ _ => by exact pts_one (pt_cmpR op_gt (pe_call (ok_law_draw T) (hr.mono (by decide)) rfl T.d_law_draw.mg T.d_law_draw.kp T.d_law_draw.b .nil pass0 (pa_cons (pv 0) (pa_cons pe_int pa_nil))) pe_int (nomark _))) (fun _ _ _ _ _ => by exact (pv 7)))
    (pss_one (ps_ret (pe_tup (pa_cons (pv 3) (pa_cons (pe_callTy (kc_tuple (K := K) rfl) (by rfl) T.z_tuple (by decide +kernel) (pa_cons (pv 6) pa_nil)) (pa_cons (pe_callTy (kc_tuple (K := K) rfl) (by rfl) T.z_tuple (by decide +kernel) (pa_cons (pe_callB (kc_sortedSetT (K := K) (P := P) (w := w) rfl rfl rfl rfl) (by rfl) T.z_sorted (by decide +kernel) (pa_cons (pe_callTy (kc_setT (K := K) (P := P) (w := w) rfl rfl rfl rfl hr.units) (by rfl) T.z_set (by decide +kernel) (pa_cons (pv 4) pa_nil)) pa_nil)) pa_nil)) pa_nil)))))))))), ?_⟩
    refine ⟨_, rfl, _, rfl, p, g, n, rfl, hP, hn0, by omega, fun r0 H1 f1 P1 hr0 => ⟨_, _, rfl, rfl, ?_⟩⟩
    obtain ⟨st, est⟩ : ∃ st : Nat, (1 + (r0 : Int)) = (st : Int) := ⟨r0 + 1, by omega⟩
    have hst0 : 0 < st := by omega
    have hstn : st ≤ n := by omega
    refine ⟨Nat.zero_le _, fun S hS => ?_⟩
    have hpos : 0 < ls.length := List.length_pos_iff.mpr hls
    have nS := P1.nw hS
    have hS0 : H S = none := f1.fr nS hS
    have f2 := f1.mu (o := .lst []) hS0
    have P2 : Pl (upd H1 S (.lst [])) p g := P1.put nS
    refine ⟨_, rfl, p, g, 8, rfl, P2, by decide, by decide, fun r H3 f3 P3 hr8 => ⟨_, rfl, by omega, by omega, ?_⟩⟩
    have hcn : (r : Int).toNat = r := by omega
    rw [hcn]
    refine for_range (lo := 0) (n := r) (fun i σ' H' => ∃ (vs : List V) (sts : List (Nat × Nat × Nat)) (o5 o6 o7 : Option V), σ' = [some (.ref p), some (.str ⟨ls.toArray⟩), some (.int (n : Int)), some (.int (1 + (r0 : Int))), some (.ref S), o5, o6, o7] ∧ Fx [p, g] H H' ∧ Pl H' p g ∧ H' S = some (.lst vs) ∧ Al rStep H' vs sts ∧
      sts.length = i ∧ ∀ s ∈ sts, s.1 < st ∧ s.2.2 < st ∧ s.2.1 ∈ ls) ⟨[], [], none, none, none, rfl, f2.trans f3, P3, f3.keep _ _ nS upd_same, .nil, rfl, fun _ z => nomatch z⟩ ?_ ?_
    · rintro i σ' H' hi ⟨vs, sts, o5, o6, o7, rfl, e, P', hSv, al, hl, hok⟩
      refine ⟨_, rfl, .inl ⟨rfl, _, SqL.of hSv⟩, _, rfl, _, rfl, p, g, st, by rw [est]; rfl, P', hst0, by omega, fun a H4 f4 P4 ha => ?_⟩
      refine ⟨_, rfl, _, rfl, _, rfl, _, rfl, by rw [slen, sizeLine_eq]; omega, p, g, ls.length, by rw [slen]; rfl, P4, hpos, by omega, fun b H5 f5 P5 hb => ?_⟩
      have hlb : ls[b]? = some ls[b] := List.getElem?_eq_getElem hb
      refine ⟨_, _, ls[b], rfl, rfl, by rw [slen, sizeLine_eq]; omega, atI_nat hlb, _, rfl, _, rfl, p, g, st, by rw [est]; rfl, P5, hst0, by omega, fun c H6 f6 P6 hc => ?_⟩
      refine ⟨by show 3 ≤ sizeLine; decide, fun U hU => ?_⟩
      have f46 := (f4.trans f5).trans f6
      have hSv6 := f46.keep _ _ nS hSv
      have fU := Fe.new (o := .tup [.int (a : Int), s1 ls[b], .int (c : Int)]) hU
      have vl := al.len
      refine ⟨S, vs, _, rfl, rfl, fU.k hSv6, by rw [sizeLine_eq]; omega, ?_⟩
      have fS : Fx [S] (upd H6 U (.tup [.int (a : Int), s1 ls[b], .int (c : Int)])) _ := Fx.put (o := .lst (vs ++ [.ref U])) (fU.k hSv6) (List.mem_singleton.mpr rfl) (fun _ z => nomatch z)
      refine ⟨vs ++ [.ref U], sts ++ [(a, ls[b], c)], _, _, _, rfl, ((e.trans f46).trans fU.to).mu hS0, (P6.keep fU).put nS, upd_same, Al.snoc ⟨U, _, _, _, rfl, fS.tups _ _ upd_same, rfl, rfl, rfl⟩ (Al.mo fS (Al.mo fU (Al.mo f46 al))), by rw [List.length_append, List.length_singleton]; omega, fun s hs => ?_⟩
      rcases List.mem_append.mp hs with hs | hs
      · exact hok s hs
      · rw [List.mem_singleton.mp hs]; exact ⟨ha, hc, List.getElem_mem hb⟩
    · rintro σ' H' ⟨vs, sts, o5, o6, o7, rfl, e, P', hSv, al, hl, hok⟩
      refine ⟨_, rfl, _, rfl, by omega, by omega, fun D hD => ?_⟩
      have hcs : (1 + (r0 : Int)).toNat = st := by omega
      rw [hcs]
      have nD := P'.nw hD
      have hDS : S ≠ D := ne_of_none hSv hD
      refine lc_range (fun i H2 => ∃ l : List Nat, Fx [p, g] H' H2 ∧ Pl H2 p g ∧ H2 D = some (.lst (l.map vN)) ∧ (∀ q ∈ l, q < st) ∧ l.length ≤ i) ⟨[], Fx.to (Fe.new hD), P'.put nD, upd_same, (fun _ z => nomatch z), Nat.le_refl _⟩ ?_ ?_
      · rintro i H2 hi ⟨l, f2, P2, hDl, hlt, hll⟩
        refine ⟨rfl, _, rfl, p, g, 5, rfl, P2, by decide, by decide, fun k H3 f3 P3 hk => ⟨_, _, rfl, rfl, _, rfl, ?_⟩⟩
        have hD3 := f3.keep _ _ nD hDl
        refine ite2 (fun _ => ?_) (fun _ => ?_)
        · refine ⟨_, rfl, l.map vN, hD3, by rw [List.length_map, sizeLine_eq]; omega, l ++ [i], (f2.trans f3).mu hD, P3.put nD, ?_, fun q hq => ?_, by rw [List.length_append, List.length_singleton]; omega⟩
          · rw [upd_same, List.map_append, Int.zero_add]; rfl
          · rcases List.mem_append.mp hq with hq | hq
            · exact hlt q hq
            · rw [List.mem_singleton.mp hq]; exact hi
        · exact ⟨l, f2.trans f3, P3, hD3, hlt, by omega⟩
      · rintro H2 ⟨l, f2, P2, hDl, hlt, hll⟩
        have hS2 := f2.keep _ _ nS hSv
        refine ⟨_, rfl, _, rfl, D, _, rfl, .inl ⟨SqL.of hDl, fun U hU => ?_⟩⟩
        have fU := Fe.new (o := .tup (l.map vN)) hU
        have hSU := fU.k hS2
        have alU := Al.mo fU (Al.mo f2 al)
        obtain ⟨ks, rfl, hkl, hk⟩ := tl_of stK (fun v x h => step_key h) alU
        refine ⟨_, rfl, S, ks, rfl, SqL.of hSU, fun p hp => ?_, by omega, fun a L ha hsub hlen hcov => ?_⟩
        · obtain ⟨_, _, _, h⟩ := hk p hp
          exact SqT.of h
        have g1 := Fe.new (o := SetMO P w a L) ha
        refine ⟨a, L, [false, true, false], rfl, upd_same, fun p hp => ?_, by decide, fun L' q hpm hq => ?_⟩
        · obtain ⟨s, _, e, h⟩ := hk p (hsub p hp)
          exact ⟨SqT.of (g1.k h), by rw [e]; rfl⟩
        have g2 := g1.trans (Fe.new (o := .lst (L'.map fun q => V.ref q.1)) hq)
        refine ⟨q, _, rfl, .inl ⟨SqL.of upd_same, fun u hu => ?_⟩⟩
        have f4 := g2.trans (Fe.new (o := .tup (L'.map fun q => V.ref q.1)) hu)
        obtain ⟨sl, hal, hsub2, hlen2⟩ := steps_back hk hsub hpm f4
        have hv : rT rStep _ (.ref u) sl := ⟨u, _, rfl, upd_same, hal⟩
        refine ⟨by show 3 ≤ sizeLine; decide, fun R hR => ?_⟩
        have fR := Fe.new (o := .tup [.int (1 + (r0 : Int)), .ref U, .ref u]) hR
        refine kk _ (st, l, sl) _ ((((e.trans f2).trans fU.to).trans f4.to).trans fR.to) (((P2.keep fU).keep f4).keep fR) ⟨R, _, _, _, rfl, upd_same, congrArg V.int est, ?_, Mo.mo (r := rT rStep) fR hv⟩ ⟨hst0, by show st ≤ 1000; omega, hlt, fun s hs => ⟨(hok s (hsub2 s hs)).1, (hok s (hsub2 s hs)).2.1⟩, by show sl.length ≤ 100; omega⟩ hstn (fun s hs => (hok s (hsub2 s hs)).2.2) (by show sl.length ≤ 10; omega) (by show l.length ≤ 20; omega)
        exact ⟨U, _, rfl, fR.k (f4.k upd_same), Al.ofNats l⟩
end
end Fm
namespace Fm
open PySem L2
abbrev Tab := List (List Nat)
abbrev Op := List Nat × List Nat × Nat × Tab
abbrev rOp : Rp Op := rP4 rS rS rN (rL (rL rN))
/-- an operation that reads r at the cost d, from q to p -/
def OpS (b : Book) (m : Mach) (r : List Nat) (d q p : Nat) : Prop := ∃ w, (r, w, d) ∈ alle b ∧ Lead (Em m) w q p
/-- whereto what is written leads -/
structure TabI (m : Mach) (w : List Nat) (k : Nat) (tab : Tab) : Prop where
  len : tab.length = k
  ok : ∀ (q : Nat) (row : List Nat), tab[q]? = some row → ∀ p, p ∈ row ↔ Lead (Em m) w q p
  sm : ∀ (q : Nat) (row : List Nat), tab[q]? = some row → row.length ≤ 100
structure OpsI (b : Book) (m : Mach) (k : Nat) (ops : List Op) : Prop where
  len : ops.length = k
  ok : ∀ (i : Nat) (op : Op), ops[i]? = some op → (alle b)[i]? = some (op.1, op.2.1, op.2.2.1) ∧ TabI m op.2.1 m.1 op.2.2.2
def OpsOk (b : Book) (m : Mach) (ops : List Op) : Prop := OpsI b m (alle b).length ops
def spOps : Sp := fun vs H Q _ => ∃ (b : Book) (m : Mach) (v1 v2 : V), vs = [v1, v2] ∧ rBook H v1 b ∧ rMach H v2 m ∧ POk b m ∧ m.2.2.length < 60 ∧ ∀ (v : V) (ops : List Op) (H' : Hp), Fe H H' → rL rOp H' v ops → OpsOk b m ops → Q v H'
def nxtH (sts : List (Nat × Nat × Nat)) (l : List Nat) (c : Nat) : List Nat := (sts.filter fun s => decide (s.1 ∈ l) && decide (s.2.1 = c)).map (·.2.2)
theorem nxtH_succ (sts : List (Nat × Nat × Nat)) (l : List Nat) (c i : Nat) (s : Nat × Nat × Nat) (h : sts[i]? = some s) : nxtH (sts.take (i + 1)) l c = nxtH (sts.take i) l c ++ (if s.1 ∈ l ∧ s.2.1 = c then [s.2.2] else []) := by
  unfold nxtH
  rw [List.take_add_one, h, List.filter_append, List.map_append]
  refine congrArg (fun z => List.map (fun x : Nat × Nat × Nat => x.2.2) (List.filter (fun s => decide (s.1 ∈ l) && decide (s.2.1 = c)) (List.take i sts)) ++ z) ?_
  show List.map _ (List.filter _ [s]) = _
  rw [List.filter_cons]
  by_cases q : s.1 ∈ l ∧ s.2.1 = c
  · rw [if_pos q, if_pos (by rw [decide_eq_true q.1, decide_eq_true q.2]; rfl)]; rfl
  · rw [if_neg q, if_neg]
    · rfl
    · rw [Bool.and_eq_true, decide_eq_true_eq, decide_eq_true_eq]; exact q
theorem nxtH_mem {sts : List (Nat × Nat × Nat)} {l : List Nat} {c p : Nat} : p ∈ nxtH sts l c ↔ ∃ q, q ∈ l ∧ (q, c, p) ∈ sts := by
  unfold nxtH
  rw [List.mem_map]
  constructor
  · rintro ⟨s, h1, rfl⟩
    obtain ⟨h2, h3⟩ := List.mem_filter.mp h1
    rw [Bool.and_eq_true, decide_eq_true_eq, decide_eq_true_eq] at h3
    exact ⟨s.1, h3.1, by rw [← h3.2]; exact h2⟩
  · rintro ⟨q, h1, h2⟩
    exact ⟨(q, c, p), List.mem_filter.mpr ⟨h2, by rw [Bool.and_eq_true, decide_eq_true_eq, decide_eq_true_eq]; exact ⟨h1, rfl⟩⟩, rfl⟩
theorem nxtH_len (sts : List (Nat × Nat × Nat)) (l : List Nat) (c : Nat) : (nxtH sts l c).length ≤ sts.length := by
  unfold nxtH
  rw [List.length_map]
  exact List.length_filter_le _ _
/-- a sorted set of naturals, back -/
theorem set_back {l : List Nat} {ns' : List Int} (hm : ∀ k : Int, k ∈ ns' ↔ decide (k ∈ l.map fun n : Nat => (n : Int)) = true) : ∃ l' : List Nat, ns' = l'.map (fun n : Nat => (n : Int)) ∧ ∀ p, p ∈ l' ↔ p ∈ l := by
  have h0 : ∀ x ∈ ns', 0 ≤ x := fun x hx => by
    have := (hm x).mp hx
    rw [decide_eq_true_eq] at this
    obtain ⟨n, _, rfl⟩ := List.mem_map.mp this
    omega
  have e := ints_back h0
  refine ⟨_, e, fun p => ?_⟩
  have h1 := hm (p : Int)
  rw [decide_eq_true_eq] at h1
  constructor
  · intro h
    have : (p : Int) ∈ ns' := by rw [e]; exact List.mem_map.mpr ⟨p, h, rfl⟩
    obtain ⟨n, hn, en⟩ := List.mem_map.mp (h1.mp this)
    have : n = p := by omega
    exact this ▸ hn
  · intro h
    have := h1.mpr (List.mem_map.mpr ⟨p, h, rfl⟩)
    exact List.mem_map.mpr ⟨(p : Int), this, by omega⟩
section
variable {P : Program} {w : World} {K : PySem.W.Frag} {g : Str → Option Value} {base : Heap}
end
end Fm
/-! the standings, by the law -/
namespace Fm
open PySem L2
theorem rest_drop {b : Book} {e : List Nat × List Nat × Nat} (h : e ∈ b.2) {k : Nat} (hk : 1 ≤ k) : Rest b (e.1.drop k) := by
  by_cases q : k < e.1.length
  · exact .inr ⟨e, k, h, hk, q, rfl⟩
  · exact .inl (List.drop_of_length_le (by omega))
theorem perm_lift2 {l m : List (List Nat)} (h : (l.map tS).Perm (m.map tS)) : ∃ l', l'.Perm m ∧ l = l' := by
  have h2 := h.map fun k : Str => k.cps.toList
  rw [List.map_map, List.map_map] at h2
  have e : ∀ l : List (List Nat), l.map ((fun k : Str => k.cps.toList) ∘ tS) = l := fun l => by
    exact (List.map_congr_left fun k _ => rfl).trans (List.map_id l)
  rw [e, e] at h2
  exact ⟨l, h2, rfl⟩
def spLStandings : Sp := fun vs H Q _ => ∃ (b : Book) (m : Mach) (v1 v2 : V), vs = [v1, v2] ∧ rBook H v1 b ∧ rMach H v2 m ∧ POk b m ∧
  ∀ (S : Addr) (svs : List V) (rs : List (List Nat)) (H' : Hp), Fe H H' → H S = none → H' S = some (.lst svs) → RsOf b rs → Al (rP rN rS) H' svs (stsOf m.1 rs) → Q (.ref S) H'
section
variable {P : Program} {w : World} {K : PySem.W.Frag} {g : Str → Option Value} {base : Heap}
theorem ok_law_standings (T : Txt K g) : FnOk P w K g base CX0 1 T.d_law_standings.f T.d_law_standings.fd P_law_standings spLStandings := by
  refine T.d_law_standings.F.ok sc_law_standings (fun vs H Q E h => ?_) (fun cdv A outer s H vs Q E hr h => ?_)
  · obtain ⟨_, _, _, _, rfl, _⟩ := h
    rfl
  · obtain ⟨b, m, v1, v2, rfl, hb, hm, pok, kk⟩ := h
    have bok := pok.bk
    have hrs := pok.e30
    obtain ⟨ma, vst, ven, vsp, rfl, hma, rfl, hen, hsp⟩ := id hm
    have hu := hu_of hr
    refine ⟨_, (pss_cons (ps_set (i := 2) sc_law_standings.nd rfl (by first | exact Or.inl rfl | exact Or.inr rfl) (pe_lst (pa_cons pe_str pa_nil)))
    (pss_cons (ps_for PassesOwn.never rfl (ki_tup (K := K) rfl (pe_ix (kx_tup (K := K) rfl) (pv 0) pe_int (fun _ _ => rfl))) (kg_tup (K := K) 3 rfl rfl (pgs_cons (pg_name (i := 3) sc_law_standings.nd rfl (by first | exact Or.inl rfl | exact Or.inr rfl)) (pgs_cons (pg_name (i := 4) sc_law_standings.nd rfl (by first | exact Or.inl rfl | exact Or.inr rfl)) (pgs_cons (pg_name (i := 5) sc_law_standings.nd rfl (by first | exact Or.inl rfl | exact Or.inr rfl)) pgs_nil))))
      (pss_one (ps_set (i := 2) sc_law_standings.nd rfl (by first | exact Or.inl rfl | exact Or.inr rfl) (pe_op op_cat (pv 2) (pe_lst (pa_cons (pe_slice sl_str (pv 3) (po_some pe_int) po_none) (pa_cons (pe_slice sl_str (pv 3) (po_some pe_int) po_none) pa_nil)))))))
    (pss_cons (ps_set (i := 2) sc_law_standings.nd rfl (by first | exact Or.inl rfl | exact Or.inr rfl) (pe_callB (kc_sortedSetS (P := P) (w := w) rfl rfl rfl) (by rfl) T.z_sorted (by decide +kernel) (pa_cons (pe_callTy (kc_setS (K := K) (P := P) (w := w) rfl rfl rfl rfl) (by rfl) T.z_set (by decide +kernel) (pa_cons (pv 2) pa_nil)) pa_nil)))
    (pss_cons (ps_set (i := 6) sc_law_standings.nd rfl (by first | exact Or.inl rfl | exact Or.inr rfl) (pe_lst pa_nil))
    (pss_cons (ps_for PassesOwn.never rfl (pi_range1 rfl T.z_range (pa_cons (pe_ix (kx_tup (K := K) rfl) (pv 1) pe_int (fun _ _ => rfl)) pa_nil)) (pg_name (i := 7) sc_law_standings.nd rfl (by first | exact Or.inl rfl | exact Or.inr rfl))
      (pss_one (ps_set (i := 6) sc_law_standings.nd rfl (by first | exact Or.inl rfl | exact Or.inr rfl) (pe_op op_cat (pv 6) (pe_lc (own := [("rest", 8)]) rfl sc_law_standings.nd (ki_list (K := K) rfl (pv 2)) (blkOk_by (N := N_law_standings) (sc := defScope s_law_standings) (by decide +kernel)) (fun _ _ _ _ _ => by exact (pg_name (i := 8) sc_law_standings.nd rfl (by first | exact Or.inl rfl | exact Or.inr rfl))) (fun _ _ _ _ _ => by exact pts_nil) (fun _ _ _ _ _ => by exact (pe_tup (pa_cons (pv 7) (pa_cons (pv 8) pa_nil)))))))))
    (pss_one (ps_ret (pv 6)))))))), ?_⟩
    obtain ⟨ba, bx, by_, rfl, hba, rfl, ⟨ea, exs, rfl, hea, hal⟩⟩ := id hb
    refine ⟨by show 1 ≤ sizeLine; decide, fun R0 hR0 => ?_⟩
    have g0 := Fe.new (o := .lst [V.str ""]) hR0
    have hel := hal.len
    have hbf := bok.few
    refine ⟨_, rfl, ba, _, _, _, rfl, rfl, SqT.of (g0.k hba), atI_nat (j := 1) rfl, ea, rfl, ⟨_, SqT.of (g0.k hea)⟩, for_tup (K := K) (a := ea) (xs := exs) (fun i σ' H' => ∃ (R : Addr) (ss : List (List Nat)) (o2 o3 o4 : Option V), σ' = [some (.ref ba), some (.ref ma), some (.ref R), o2, o3, o4, none, none, none] ∧ Fe H H' ∧ H' R = some (.lst (ss.map fun r => V.str (tS r))) ∧
      [] ∈ ss ∧ (∀ r ∈ ss, Rest b r) ∧ (∀ e ∈ b.2.take i, e.1.drop 1 ∈ ss ∧ e.1.drop 2 ∈ ss) ∧ ss.length ≤ 1 + 2 * i) ⟨R0, [[]], _, _, _, rfl, g0, upd_same, List.mem_cons_self, fun r hr => by rw [List.mem_singleton.mp hr]; exact .inl rfl, (fun _ h => nomatch h), Nat.le_refl _⟩ (fun i σ' H' _ ⟨_, _, _, _, _, _, e, _⟩ => SqT.of (e.k hea)) ?_ ?_⟩
    · rintro i x σ' H1 hx ⟨R, ss, o2, o3, o4, rfl, e1, hR, h0, hre, hin, hll⟩
      obtain ⟨e, he, her⟩ := hal.get hx
      have hem := List.mem_of_getElem? he
      have hil : i < b.2.length := (List.getElem?_eq_some_iff.mp he).1
      obtain ⟨u2, y1, y2, y3, rfl, hu3, rfl, rfl, rfl⟩ := id her
      have h3 := bok.len e hem
      refine ⟨u2, _, rfl, SqT.of (e1.k hu3), rfl, _, _, rfl, _, _, rfl, _, _, rfl, rfl, ?_⟩
      refine ⟨_, rfl, _, rfl, _, rfl, _, rfl, by rw [slen, sizeLine_eq]; omega, _, rfl, _, rfl, _, rfl, by rw [slen, sizeLine_eq]; omega, by show 2 ≤ sizeLine; decide, fun Lb hLb => ?_⟩
      have gb := Fe.new (o := .lst [V.str (cutS ⟨e.1.toArray⟩ (some 1) none), V.str (cutS ⟨e.1.toArray⟩ (some 2) none)]) hLb
      refine ⟨R, Lb, _, _, rfl, rfl, gb.k hR, upd_same, by rw [List.length_map, sizeLine_eq]; show ss.length + 2 ≤ _; omega, fun R2 hR2 => ?_⟩
      have gc := gb.trans (Fe.new (o := .lst ((ss.map fun r => V.str (tS r)) ++ [V.str (cutS ⟨e.1.toArray⟩ (some 1) none), V.str (cutS ⟨e.1.toArray⟩ (some 2) none)])) hR2)
      refine ⟨R2, ss ++ [e.1.drop 1, e.1.drop 2], _, _, _, rfl, e1.trans gc, ?_, List.mem_append_left _ h0, fun r hr => ?_, fun e' he' => ?_, by rw [List.length_append]; show ss.length + 2 ≤ _; omega⟩
      · rw [upd_same, List.map_append]
        have c1 : cutS ⟨e.1.toArray⟩ (some 1) none = tS (e.1.drop 1) := cut_from e.1 1
        have c2 : cutS ⟨e.1.toArray⟩ (some 2) none = tS (e.1.drop 2) := cut_from e.1 2
        rw [c1, c2]; rfl
      · rcases List.mem_append.mp hr with h | h
        · exact hre r h
        · rcases List.mem_cons.mp h with rfl | h
          · exact rest_drop hem (by decide)
          · rw [List.mem_singleton.mp h]; exact rest_drop hem (by decide)
      · rw [List.take_add_one, he] at he'
        rcases List.mem_append.mp he' with h | h
        · exact ⟨List.mem_append_left _ (hin e' h).1, List.mem_append_left _ (hin e' h).2⟩
        · rw [List.mem_singleton.mp h]
          exact ⟨List.mem_append_right _ List.mem_cons_self, List.mem_append_right _ (List.mem_cons_of_mem _ List.mem_cons_self)⟩
    · rintro σ' H1 ⟨R, ss, o2, o3, o4, rfl, e1, hR, h0, hre, hin, hll⟩
      rw [hel, List.take_length] at hin
      refine ⟨_, rfl, R, ss.map tS, rfl, by rw [List.map_map]; exact SqL.of hR, by rw [List.length_map]; omega, fun a L ha hnd hmem => ?_⟩
      have g1 := Fe.new (o := SetXO P w a L) ha
      obtain ⟨rs, rfl⟩ : ∃ rs, L = rs.map tS := ⟨L.map fun k => k.cps.toList, by rw [List.map_map]; exact ((List.map_congr_left fun k _ => rfl).trans (List.map_id L)).symm⟩
      have hnd2 : rs.Nodup := by
        rw [List.nodup_iff_pairwise_ne] at hnd ⊢
        rw [List.pairwise_map] at hnd
        exact hnd.imp fun h z => h (by rw [z])
      have hrm : ∀ r, r ∈ rs ↔ r ∈ ss := fun r => by
        have h1 := hmem (tS r)
        have inj : ∀ l : List (List Nat), tS r ∈ l.map tS ↔ r ∈ l := fun l => by
          constructor
          · intro h
            obtain ⟨r', h1, h2⟩ := List.mem_map.mp h
            have : r' = r := by
              have := congrArg (fun z : Str => z.cps.toList) h2
              simpa using this
            exact this ▸ h1
          · intro h
            exact List.mem_map.mpr ⟨r, h, rfl⟩
        rw [inj, inj] at h1
        exact h1
      have hr61 : rs.length ≤ 61 := hrs rs hnd2 fun r hr => hre r ((hrm r).mp hr)
      refine ⟨a, rs.map tS, rfl, upd_same, by rw [List.length_map]; omega, fun ys q hpm hso hq => ?_⟩
      have g2 := g1.trans (Fe.new (o := .lst (ys.map V.str)) hq)
      obtain ⟨rs2, rfl⟩ : ∃ rs2, ys = rs2.map tS := ⟨ys.map fun k => k.cps.toList, by rw [List.map_map]; exact ((List.map_congr_left fun k _ => rfl).trans (List.map_id ys)).symm⟩
      obtain ⟨rs3, hp3, he3⟩ := perm_lift2 hpm
      have : rs2 = rs3 := he3
      subst this
      have hrsO : RsOf b rs2 := ⟨hp3.nodup_iff.mpr hnd2, hso, fun r => by
        rw [hp3.mem_iff, hrm]
        refine ⟨hre r, fun h => ?_⟩
        rcases h with rfl | ⟨e, k, h1, h2, h3, rfl⟩
        · exact h0
        · have := bok.len e h1
          rcases (by omega : k = 1 ∨ k = 2) with rfl | rfl
          · exact (hin e h1).1
          · exact (hin e h1).2⟩
      have g02 := e1.trans g2
      have hrq : (upd (upd H1 a (SetXO P w a (rs.map tS))) q (.lst ((rs2.map tS).map V.str))) q = some (.lst (rs2.map fun r => V.str (tS r))) := by rw [upd_same, List.map_map]; rfl
      generalize upd (upd H1 a (SetXO P w a (rs.map tS))) q (.lst ((rs2.map tS).map V.str)) = HB at g02 hrq ⊢
      clear g1 g2 hpm hso hmem hnd hnd2 hrm hr61 hp3 he3
      refine ⟨Nat.zero_le _, fun S0 hS0 => ?_⟩
      have gS := Fe.new (o := .lst []) hS0
      have g0 := g02.trans gS
      have hrq0 := gS.k hrq
      have hst4 : ∀ n, n ≤ m.1 → (stsOf n rs2).length ≤ 3660 := fun n hn => by
        rw [stsOf_len]
        have h1 := pok.e30 rs2 hrsO.nd fun r hr => (hrsO.mem r).mp hr
        have h2 := pok.few
        have := Nat.mul_le_mul (Nat.le_trans hn h2) h1
        omega
      have S00 : (upd HB S0 (.lst [])) S0 = some (.lst []) := upd_same
      generalize upd HB S0 (.lst []) = HA at g0 hrq0 S00 ⊢
      refine ⟨_, rfl, ma, _, _, _, rfl, rfl, SqT.of (g0.k hma), atI_nat (j := 0) rfl, _, rfl, by have := pok.few; omega, by have := pok.few; omega, ?_⟩
      have hcm : (m.1 : Int).toNat = m.1 := by omega
      rw [hcm]
      refine for_range (lo := 0) (n := m.1) (fun i σ' H' => ∃ (S : Addr) (svs : List V) (o7 : Option V), σ' = [some (.ref ba), some (.ref ma), some (.ref q), o2, o3, o4, some (.ref S), o7, none] ∧ Fe HA H' ∧ H S = none ∧ H' S = some (.lst svs) ∧ Al (rP rN rS) H' svs (stsOf i rs2)) ⟨S0, [], _, rfl, Fx.refl _ _, g02.free hS0, S00, .nil⟩ ?_ ?_
      · rintro i σ' H2 hi ⟨S, svs, o7, rfl, e2, hSn, hS, al⟩
        rw [show ((0:Int)+(i:Int)) = (i:Int) from Int.zero_add _]
        have hrq2 := e2.k hrq0
        have h61 := pok.e30 rs2 hrsO.nd fun r hr => (hrsO.mem r).mp hr
        refine ⟨_, rfl, _, rfl, q, rfl, ⟨_, SqL.of hrq2⟩, fun C hC => lc_list (xs := rs2.map fun r => V.str (tS r)) (fun j H' => Cmp (rP rN rS) H2 C ((rs2.take j).map fun r => (i, r)) H') (Cmp.start hC) (fun j H' hj c => SqL.of (c.fe.k hrq2)) (fun j xv H' hx c => ?_) (fun H3 c => ?_)⟩
        · rw [List.getElem?_map] at hx
          obtain ⟨r, hrr, rfl⟩ : ∃ r, rs2[j]? = some r ∧ xv = V.str (tS r) := by
            cases z : rs2[j]? with
            | none => rw [z] at hx; cases hx
            | some r => rw [z] at hx; exact ⟨r, rfl, (Option.some.inj hx).symm⟩
          refine ⟨rfl, ?_⟩
          refine iteT (B := Cmp (rP rN rS) H2 C ((rs2.take (j + 1)).map fun r => (i, r)) H') ?_
          refine ⟨_, rfl, _, rfl, by show 2 ≤ sizeLine; decide, fun U hU => ?_⟩
          have e : (rs2.take (j + 1)).map (fun r => (i, r)) = (rs2.take j).map (fun r => (i, r)) ++ [(i, r)] := by rw [List.take_add_one, hrr, List.map_append]; rfl
          rw [e]
          exact c.add (x := (i, r)) (y := .ref U) (by rw [List.length_map, List.length_take]; omega) (Fe.new hU) ⟨U, _, _, rfl, upd_same, rfl, rfl⟩
        · rw [List.length_map, List.take_length] at c
          obtain ⟨_, cv, eC, hCv, alc⟩ := c.rl
          cases eC
          have hlenn : svs.length + cv.length ≤ 7320 := by
            have h1 := al.len
            have h2 := alc.len
            rw [List.length_map] at h2
            have h3 := hst4 i (Nat.le_of_lt hi)
            omega
          refine ⟨S, C, _, _, rfl, rfl, c.fe.k hS, hCv, by rw [sizeLine_eq]; omega, fun p hp => ?_⟩
          have gp := Fe.new (o := .lst (svs ++ cv)) hp
          refine ⟨p, svs ++ cv, _, rfl, (e2.trans c.fe).trans gp, ((g0.trans e2).trans c.fe).free hp, upd_same, ?_⟩
          rw [stsOf_succ]
          exact Al.app (Al.mo (c.fe.trans gp) al) (Al.mo gp alc)
      · rintro σ' H2 ⟨S, svs, o7, rfl, e2, hSn, hS, al⟩
        exact ⟨_, rfl, kk S svs rs2 H2 (g0.trans e2) hSn hS hrsO al⟩
end
end Fm
/-! the moves, by the law -/
namespace Fm
open PySem L2
abbrev Mv5 := Nat × List Nat × Nat × Nat
abbrev rMv5 : Rp Mv5 := rP4 rN rS rN rN
instance {α β γ δ : Type} {r : Rp α} {q : Rp β} {t : Rp γ} {u : Rp δ} [Mo r] [Mo q] [Mo t] [Mo u] : Mo (rP4 r q t u) :=
  ⟨fun f ⟨a, x, y, z, w, e, h, h1, h2, h3, h4⟩ => ⟨a, x, y, z, w, e, f.tups _ _ h, Mo.mo (r := r) f h1, Mo.mo (r := q) f h2, Mo.mo (r := t) f h3, Mo.mo (r := u) f h4⟩⟩
def kOf : Option Nat → List Nat
  | none => []
  | some x => [x]
/-- the moves from the standings before k -/
structure MvI (b : Book) (m : Mach) (sts : List Stg) (k : Nat) (l : List Mv5) : Prop where
  ok : ∀ e ∈ l, ∃ o, e.2.1 = kOf o ∧ Told b m sts o e.1 e.2.2.2 e.2.2.1
  all : ∀ (o : Option Nat) (h to c : Nat), h < k → Told b m sts o h to c → (h, kOf o, c, to) ∈ l
  len : l.length ≤ 3700 * k
abbrev MvsOk (b : Book) (m : Mach) (sts : List Stg) (l : List Mv5) : Prop := MvI b m sts sts.length l
theorem sok_of {b : Book} {m : Mach} (pok : POk b m) {rs : List (List Nat)} (hrs : RsOf b rs) : SOk b m (stsOf m.1 rs) :=
  ⟨pok.bk, pok.mo, pok.few, pok.ln, pok.ms, stsOf_nd hrs.nd, fun s => by rw [stsOf_mem, hrs.mem]⟩
theorem sts_len {b : Book} {m : Mach} (pok : POk b m) {rs : List (List Nat)} (hrs : RsOf b rs) : (stsOf m.1 rs).length ≤ 3660 := by
  rw [stsOf_len]
  have h1 := pok.e30 rs hrs.nd fun r hr => (hrs.mem r).mp hr
  have h2 := pok.few
  have := Nat.mul_le_mul h2 h1
  omega
theorem dec_str1 (x y : Nat) : decide (V.str ⟨#[x]⟩ = V.str ⟨#[y]⟩) = decide (x = y) := by
  refine decide_eq_decide.mpr ⟨fun h => ?_, fun h => by rw [h]⟩
  have := congrArg Str.cps (V.str.inj h)
  simpa using this
/-- within the standing i -/
structure MvJ (b : Book) (m : Mach) (sts : List Stg) (i : Nat) (q : Nat) (j : Nat) (l : List Mv5) : Prop where
  ok : ∀ e ∈ l, ∃ o, e.2.1 = kOf o ∧ Told b m sts o e.1 e.2.2.2 e.2.2.1
  all : ∀ (o : Option Nat) (h to c : Nat), h < i → Told b m sts o h to c → (h, kOf o, c, to) ∈ l
  stp : ∀ (x p to : Nat), (q, x, p) ∈ m.2.2 → sts[to]? = some (p, []) → (i, [x], 0, to) ∈ l
  edt : ∀ e ∈ b.2.take j, ∀ (p to : Nat), Lead (Em m) e.2.1 q p → sts[to]? = some (p, e.1.drop 1) → (i, e.1.take 1, e.2.2, to) ∈ l
  len : l.length ≤ 3700 * i + 60 + 60 * j
theorem MvJ.done {b : Book} {m : Mach} {sts : List Stg} {i q : Nat} {l : List Mv5} (so : SOk b m sts) (hb : b.2.length ≤ 60) (h : MvJ b m sts i q b.2.length l) (hi : sts[i]? = some (q, [])) : MvI b m sts (i + 1) l where
  ok := h.ok
  all := fun o h0 to c hlt ht => by
    rcases (by omega : h0 < i ∨ h0 = i) with z | rfl
    · exact h.all o h0 to c z ht
    · obtain ⟨s', h3, h4⟩ := (told_at so hi).mp ht
      cases o with
      | none =>
        obtain ⟨_, h5, wr, h6, h7⟩ := h4
        have := h.edt _ (by rw [List.take_length]; exact h6) s'.1 to h7 (by rw [h3]; exact congrArg some (Prod.ext rfl h5))
        exact this
      | some x =>
        rcases h4 with ⟨r, h5, _⟩ | ⟨_, h5, h6, rfl⟩ | ⟨_, rd, wr, h5, h6, h7⟩
        · cases h5
        · exact h.stp x s'.1 to h6 (by rw [h3]; exact congrArg some (Prod.ext rfl h5))
        · have := h.edt _ (by rw [List.take_length]; exact h5) s'.1 to h7 (by rw [h3]; exact congrArg some (Prod.ext rfl h6))
          exact this
  len := by have := h.len; omega
theorem MvI.rest {b : Book} {m : Mach} {sts : List Stg} {i q x to : Nat} {r : List Nat} {l : List Mv5} (so : SOk b m sts) (h : MvI b m sts i l) (hi : sts[i]? = some (q, x :: r)) (hto : sts[to]? = some (q, r)) : MvI b m sts (i + 1) (l ++ [(i, [x], 0, to)]) where
  ok := fun e he => by
    rcases List.mem_append.mp he with he | he
    · exact h.ok e he
    · rw [List.mem_singleton.mp he]
      exact ⟨some x, rfl, (told_at so hi).mpr ⟨_, hto, .inl ⟨r, rfl, rfl, rfl⟩⟩⟩
  all := fun o h0 to' c hlt ht => by
    rcases (by omega : h0 < i ∨ h0 = i) with z | rfl
    · exact List.mem_append_left _ (h.all o h0 to' c z ht)
    · refine List.mem_append_right _ (List.mem_singleton.mpr ?_)
      obtain ⟨s', h3, h4⟩ := (told_at so hi).mp ht
      cases o with
      | none => obtain ⟨h5, _⟩ := h4; cases h5
      | some y =>
        rcases h4 with ⟨r', h5, rfl, rfl⟩ | ⟨h5, _⟩ | ⟨h5, _⟩
        · cases h5
          have := nodup_inj so.nd h3 hto
          rw [this]; rfl
        · cases h5
        · cases h5
  len := by have := h.len; rw [List.length_append, List.length_singleton]; omega
theorem cut_one (l : List Nat) : cutS ⟨l.toArray⟩ none (some 1) = ⟨(l.take 1).toArray⟩ := by
  cases l with
  | nil => decide +kernel
  | cons x r =>
    unfold cutS
    rw [slen, show (1 : Int) = ((1 : Nat) : Int) from rfl, HT.sIx_nat]
    show (⟨(((x :: r).drop 0).take (min 1 (x :: r).length - 0)).toArray⟩ : Str) = _
    rw [Nat.min_eq_left (by rw [List.length_cons]; omega)]; rfl
theorem rest_drop1 {b : Book} {e : List Nat × List Nat × Nat} (h : e ∈ b.2) : Rest b (e.1.drop 1) := rest_drop h (Nat.le_refl 1)
theorem told_edit {b : Book} {m : Mach} {sts : List Stg} (so : SOk b m sts) {i q p to : Nat} {e : List Nat × List Nat × Nat} (he : e ∈ b.2) (hi : sts[i]? = some (q, [])) (hl : Lead (Em m) e.2.1 q p) (hto : sts[to]? = some (p, e.1.drop 1)) : ∃ o, e.1.take 1 = kOf o ∧ Told b m sts o i to e.2.2 := by
  obtain ⟨r, w, c⟩ := e
  cases r with
  | nil => exact ⟨none, rfl, (told_at so hi).mpr ⟨_, hto, rfl, rfl, w, he, hl⟩⟩
  | cons x r => exact ⟨some x, rfl, (told_at so hi).mpr ⟨_, hto, .inr (.inr ⟨rfl, r, w, he, rfl, hl⟩)⟩⟩
def spLMoves : Sp := fun vs H Q _ => ∃ (b : Book) (m : Mach) (v1 v2 : V), vs = [v1, v2] ∧ rBook H v1 b ∧ rMach H v2 m ∧ POk b m ∧ m.2.2.length < 60 ∧
  ∀ (W S F : Addr) (svs fvs : List V) (rs : List (List Nat)) (l : List Mv5) (H' : Hp), Fe H H' → H W = none → H S = none → H F = none → H' W = some (.lst [.ref S, .ref F]) → H' S = some (.lst svs) → H' F = some (.lst fvs) → RsOf b rs → Al (rP rN rS) H' svs (stsOf m.1 rs) → Al rMv5 H' fvs l → MvsOk b m (stsOf m.1 rs) l → Q (.ref W) H'
section
variable {P : Program} {w : World} {K : PySem.W.Frag} {g : Str → Option Value} {base : Heap}
theorem ok_law_moves (T : Txt K g) : FnOk P w K g base CX0 2 T.d_law_moves.f T.d_law_moves.fd P_law_moves spLMoves := by
  refine T.d_law_moves.F.ok sc_law_moves (fun vs H Q E h => ?_) (fun cdv A outer s H vs Q E hr h => ?_)
  · obtain ⟨_, _, _, _, rfl, _⟩ := h
    rfl
  · obtain ⟨b, m, v1, v2, rfl, hb, hm, pok, hm60, kk⟩ := h
    have hu := hu_of hr
    refine ⟨_, (pss_cons (ps_asg (pv 1) (kg_tup (K := K) 3 rfl rfl (pgs_cons (pg_name (i := 2) sc_law_moves.nd rfl (by first | exact Or.inl rfl | exact Or.inr rfl)) (pgs_cons (pg_name (i := 3) sc_law_moves.nd rfl (by first | exact Or.inl rfl | exact Or.inr rfl)) (pgs_cons (pg_name (i := 4) sc_law_moves.nd rfl (by first | exact Or.inl rfl | exact Or.inr rfl)) pgs_nil)))))
    (pss_cons (ps_set (i := 5) sc_law_moves.nd rfl (by first | exact Or.inl rfl | exact Or.inr rfl) (pe_call (ok_law_standings T) (hr.mono (by decide)) rfl T.d_law_standings.mg T.d_law_standings.kp T.d_law_standings.b .nil pass0 (pa_cons (pv 0) (pa_cons (pv 1) pa_nil))))
    (pss_cons (ps_set (i := 6) sc_law_moves.nd rfl (by first | exact Or.inl rfl | exact Or.inr rfl) pe_dnewT)
    (pss_cons (ps_for PassesOwn.never rfl (pi_range1 rfl T.z_range (pa_cons (pe_callB (kc_len (K := K) rfl) (by rfl) T.z_len PySem.boot_len (pa_cons (pv 5) pa_nil)) pa_nil)) (pg_name (i := 7) sc_law_moves.nd rfl (by first | exact Or.inl rfl | exact Or.inr rfl))
      (pss_one (ps_dput hu (pv 6) (pe_ix (kx_list (K := K) rfl) (pv 5) (pv 7) (fun _ _ => rfl)) (pv 7) rfl)))
    (pss_cons (ps_set (i := 8) sc_law_moves.nd rfl (by first | exact Or.inl rfl | exact Or.inr rfl) (pe_lst pa_nil))
    (pss_cons (ps_for PassesOwn.never rfl (ki_list (K := K) rfl (pv 5)) (kg_tup (K := K) 2 rfl rfl (pgs_cons (pg_name (i := 9) sc_law_moves.nd rfl (by first | exact Or.inl rfl | exact Or.inr rfl)) (pgs_cons (pg_name (i := 10) sc_law_moves.nd rfl (by first | exact Or.inl rfl | exact Or.inr rfl)) pgs_nil)))
      (pss_cons (ps_set (i := 11) sc_law_moves.nd rfl (by first | exact Or.inl rfl | exact Or.inr rfl) (pe_dget hu (pv 6) (pe_tup (pa_cons (pv 9) (pa_cons (pv 10) pa_nil))) (fun _ _ => rfl)))
      (pss_one (ps_if (pt_cmpR op_ne (pv 10) pe_str (nomark _))
        (pss_one (ps_expr (ke_bm (K := K) rfl PySem.F.plainAttrs_list PySem.F.slot_list_append PySem.F.type_list_append mt_append (pv 8) (pa_cons (pe_tup (pa_cons (pv 11) (pa_cons (pe_ix ix_str (pv 10) pe_int (fun _ _ => rfl)) (pa_cons pe_int (pa_cons (pe_dget hu (pv 6) (pe_tup (pa_cons (pv 9) (pa_cons (pe_slice sl_str (pv 10) (po_some pe_int) po_none) pa_nil))) (fun _ _ => rfl)) pa_nil))))) pa_nil))))
        (pss_cons (ps_set (i := 8) sc_law_moves.nd rfl (by first | exact Or.inl rfl | exact Or.inr rfl) (pe_op op_cat (pv 8) (pe_lc (own := [("o", 17), ("x", 16), ("p", 18)]) rfl sc_law_moves.nd (ki_tup (K := K) rfl (pv 4)) (blkOk_by (N := N_law_moves) (sc := defScope s_law_moves) (by decide +kernel)) (fun _ _ _ _ _ => by exact (kg_tup (K := K) 3 rfl rfl (pgs_cons (pg_name (i := 17) sc_law_moves.nd rfl (by first | exact Or.inl rfl | exact Or.inr rfl)) (pgs_cons (pg_name (i := 16) sc_law_moves.nd rfl (by first | exact Or.inl rfl | exact Or.inr rfl)) (pgs_cons (pg_name (i := 18) sc_law_moves.nd rfl (by first | exact Or.inl rfl | exact Or.inr rfl)) pgs_nil))))) (fun _ _ _ _ _ => by exact pts_one (pt_cmpR op_eq (pv 17) (pv 9) (nomark _))) (fun _ _ _ _ _ => by exact (pe_tup (pa_cons (pv 11) (pa_cons (pv 16) (pa_cons pe_int (pa_cons (pe_dget hu (pv 6) (pe_tup (pa_cons (pv 18) (pa_cons pe_str pa_nil))) (fun _ _ => rfl)) pa_nil)))))))))
        (pss_one (ps_for PassesOwn.never rfl (ki_tup (K := K) rfl (pe_ix (kx_tup (K := K) rfl) (pv 0) pe_int (fun _ _ => rfl))) (kg_tup (K := K) 3 rfl rfl (pgs_cons (pg_name (i := 12) sc_law_moves.nd rfl (by first | exact Or.inl rfl | exact Or.inr rfl)) (pgs_cons (pg_name (i := 13) sc_law_moves.nd rfl (by first | exact Or.inl rfl | exact Or.inr rfl)) (pgs_cons (pg_name (i := 14) sc_law_moves.nd rfl (by first | exact Or.inl rfl | exact Or.inr rfl)) pgs_nil))))
          (pss_cons (ps_set (i := 15) sc_law_moves.nd rfl (by first | exact Or.inl rfl | exact Or.inr rfl) (pe_lst (pa_cons (pv 9) pa_nil)))
          (pss_cons (ps_for PassesOwn.never rfl (pi_str (pv 13)) (pg_name (i := 16) sc_law_moves.nd rfl (by first | exact Or.inl rfl | exact Or.inr rfl))
            (pss_one (ps_set (i := 15) sc_law_moves.nd rfl (by first | exact Or.inl rfl | exact Or.inr rfl) (pe_callB (kc_sortedSet (w := w) rfl rfl) (by rfl) T.z_sorted (by decide +kernel) (pa_cons (pe_callTy (kc_setI (K := K) (w := w) rfl rfl rfl) (by rfl) T.z_set (by decide +kernel) (pa_cons (pe_lc (own := [("o", 17), ("y", 19), ("p", 18)]) rfl sc_law_moves.nd (ki_tup (K := K) rfl (pv 4)) (blkOk_by (N := N_law_moves) (sc := defScope s_law_moves) (by decide +kernel)) (fun _ _ _ _ _ => by exact (kg_tup (K := K) 3 rfl rfl (pgs_cons (pg_name (i := 17) sc_law_moves.nd rfl (by first | exact Or.inl rfl | exact Or.inr rfl)) (pgs_cons (pg_name (i := 19) sc_law_moves.nd rfl (by first | exact Or.inl rfl | exact Or.inr rfl)) (pgs_cons (pg_name (i := 18) sc_law_moves.nd rfl (by first | exact Or.inl rfl | exact Or.inr rfl)) pgs_nil))))) (fun _ _ _ _ _ => by exact pts_one (PW.pt (pw_and (pt_cmpR (ko_in (K := K) rfl) (pv 17) (pv 15) (by rfl)) (pw_and1 (pt_cmpR op_eq (pv 16) (pv 19) (nomark _)))))) (fun _ _ _ _ _ => by exact (pv 18))) pa_nil)) pa_nil)))))
          (pss_one (ps_set (i := 8) sc_law_moves.nd rfl (by first | exact Or.inl rfl | exact Or.inr rfl) (pe_op op_cat (pv 8) (pe_lc (own := [("p", 18)]) rfl sc_law_moves.nd (ki_list (K := K) rfl (pv 15)) (blkOk_by (N := N_law_moves) (sc := defScope s_law_moves) (by decide +kernel)) (fun _ _ _ _ _ => by exact (pg_name (i := 18) sc_law_moves.nd rfl (by first | exact Or.inl rfl | exact Or.inr rfl))) (fun _ _ _ _ _ => by exact pts_nil) (fun _ _ _ _ _ => by exact (pe_tup (pa_cons (pv 11) (pa_cons (pe_slice sl_str (pv 12) po_none (po_some pe_int)) (pa_cons (pv 14) (pa_cons (pe_dget hu (pv 6) (pe_tup (pa_cons (pv 18) (pa_cons (pe_slice sl_str (pv 12) (po_some pe_int) po_none) pa_nil))) (fun _ _ => rfl)) pa_nil)))))))))))))))))))
    (pss_one (ps_ret (pe_lst (pa_cons (pv 5) (pa_cons (pv 8) pa_nil))))))))))), ?_⟩
    obtain ⟨ma, vst, ven, vsp, rfl, hma, rfl, hen, hsp⟩ := id hm
    obtain ⟨sa, sxs, rfl, hsa, hsal⟩ := id hsp
    obtain ⟨bk, vl, ve, rfl, hbk, rfl, hed⟩ := id hb
    obtain ⟨ea, exs, rfl, hea, heal⟩ := id hed
    refine ⟨_, rfl, ma, _, rfl, SqT.of hma, rfl, _, _, rfl, _, _, rfl, _, _, rfl, rfl, ?_⟩
    refine ⟨_, rfl, _, rfl, b, m, .ref bk, .ref ma, rfl, hb, hm, pok, fun S svs rs H1 e1 hSn hS hrs al => ?_⟩
    have so := sok_of pok hrs
    have hst4 := sts_len pok hrs
    generalize hsts : stsOf m.1 rs = sts at *
    have hsl := al.len
    intro D hD
    have gD := Fe.new (o := .dT []) hD
    have hDS : D ≠ S := fun z => by rw [z, hS] at hD; cases hD
    have D0 : (upd H1 D (.dT [])) D = some (.dT []) := upd_same
    have hS0 := gD.k hS
    have al0 := Al.me gD al
    have e01 := e1.trans gD
    have hDH : H D = none := e1.free hD
    generalize upd H1 D (.dT []) = H2 at gD D0 hS0 al0 e01
    refine ⟨_, rfl, S, _, rfl, .inl (SqL.of hS0), _, rfl, by rw [hsl]; omega, by rw [hsl]; omega, ?_⟩
    have hcn : ((svs.length : Nat) : Int).toNat = sts.length := by rw [hsl]; omega
    rw [hcn]
    refine for_range (lo := 0) (n := sts.length) (fun i σ' H' => ∃ o7 : Option V, σ' = [some (.ref bk), some (.ref ma), some (vN m.1), some ven, some (.ref sa), some (.ref S), some (.ref D), o7, none, none, none, none, none, none, none, none, none, none, none, none] ∧ Fe H H' ∧ H' S = some (.lst svs) ∧ Al (rP rN rS) H' svs sts ∧ H' D = some (.dT (hkvs (sts.take i)))) ⟨_, rfl, e01, hS0, al0, D0⟩ ?_ ?_
    · rintro i σ' H3 hi ⟨o7, rfl, e3, hS3, al3, hD3⟩
      rw [show ((0:Int)+(i:Int)) = (i:Int) from Int.zero_add _]
      obtain ⟨s, hs⟩ : ∃ s, sts[i]? = some s := ⟨_, List.getElem?_eq_getElem hi⟩
      obtain ⟨x, hx, hxr⟩ := al3.at hs
      obtain ⟨u, x1, x2, rfl, hu1, rfl, rfl⟩ := id hxr
      refine ⟨_, rfl, _, rfl, _, rfl, _, rfl, S, _, _, _, rfl, rfl, SqL.of hS3, atI_nat hx, D, _, rfl, DPut.t (k := kSt s) hD3 hu1 (by unfold hkvs; rw [List.length_map, List.length_zipIdx, List.length_take, sizeLine_eq]; omega), ?_⟩
      have fD : Fx [D] H3 (upd H3 D (.dT (putK (hkvs (sts.take i)) (kSt s) (.int (i : Int))))) := Fx.put hD3 (List.mem_singleton.mpr rfl) (fun _ z => nomatch z)
      exact ⟨_, rfl, e3.mut hDH, fD.keep _ _ (fun z => hDS (List.mem_singleton.mp z).symm) hS3, Al.mo fD al3, by rw [upd_same, hkvs_put so.nd hs]⟩
    · rintro σ' H3 ⟨o7, rfl, e3, hS3, al3, hD3⟩
      rw [List.take_length] at hD3
      have bok := pok.bk
      have hbl := bok.few
      have mok := pok.mo
      have hsll := hsal.len
      have hell := heal.len
      refine ⟨Nat.zero_le _, fun F0 hF0 => ?_⟩
      have gF := Fe.new (o := .lst []) hF0
      have F00 : (upd H3 F0 (.lst [])) F0 = some (.lst []) := upd_same
      generalize upd H3 F0 (.lst []) = H4 at gF F00
      refine ⟨_, rfl, S, rfl, ⟨_, SqL.of (gF.k hS3)⟩, for_lst (xs := svs) (fun i σ' H' => ∃ (F : Addr) (fvs : List V) (l : List Mv5) (o9 o10 o11 o12 o13 o14 o15 o16 : Option V), σ' = [some (.ref bk), some (.ref ma), some (vN m.1), some ven, some (.ref sa), some (.ref S), some (.ref D), o7, some (.ref F), o9, o10, o11, o12, o13, o14, o15, o16, none, none, none] ∧ Fe H3 H' ∧ H3 F = none ∧ H' F = some (.lst fvs) ∧ Al rMv5 H' fvs l ∧ MvI b m sts i l)
        ⟨F0, [], [], _, _, _, _, _, _, _, _, rfl, gF, hF0, F00, .nil, (fun _ h => nomatch h), (fun _ _ _ _ h => by omega), Nat.zero_le _⟩ (fun i σ' H' _ ⟨_, _, _, _, _, _, _, _, _, _, _, _, e, _⟩ => e.k hS3) ?_ ?_⟩
      · rintro i x σ' H5 hx ⟨F, fvs, l, o9, o10, o11, o12, o13, o14, o15, o16, rfl, e5, hFn, hF, alf, mi⟩
        obtain ⟨⟨q, rest⟩, hs, hxr⟩ := al3.get hx
        obtain ⟨u, x1, x2, rfl, hu1, rfl, rfl⟩ := id (Me.go hxr e5)
        have hil := (List.getElem?_eq_some_iff.mp hs).1
        have hfl := alf.len
        have hml := mi.len
        obtain ⟨hqm, hrr⟩ := (so.mem _).mp (List.mem_of_getElem? hs)
        have hqm : q < m.1 := hqm
        have hrr : Rest b rest := hrr
        refine ⟨u, _, rfl, SqT.of hu1, rfl, _, _, rfl, _, _, rfl, rfl, ?_⟩
        refine ⟨_, rfl, _, rfl, _, rfl, by show 2 ≤ sizeLine; decide, fun U hU => ?_⟩
        have gU := Fe.new (o := .tup [vN q, .str ⟨rest.toArray⟩]) hU
        refine ⟨D, .int (i : Int), rfl, by rw [← hkvs_at so.nd hs]; exact DGet.t (k := kSt (q, rest)) (gU.k (e5.k hD3)) upd_same, ?_⟩
        have e6 := e5.trans gU
        have hF6 := gU.k hF
        have alf6 := Al.me gU alf
        generalize upd H5 U (.tup [vN q, .str ⟨rest.toArray⟩]) = H6 at gU e6 hF6 alf6 ⊢
        have hsa6 := e6.k (e3.k hsa)
        have hD6 := e6.k hD3
        have sal6 : Al (rP3 rN rC rN) H6 sxs m.2.2 := Al.mo (e3.trans e6) hsal
        refine ⟨_, rfl, rfl, _, rfl, ?_⟩
        rw [dec_str_nil]
        cases rest with
        | cons y r =>
          rw [decide_eq_false (by intro z; cases z)]
          refine iteT ?_
          have hr3 : (y :: r).length ≤ 3 := by
            rcases hrr with h | ⟨e, k, h1, h2, h3, h4⟩
            · cases h
            · rw [h4, List.length_drop]; have := bok.len e h1; omega
          rw [List.length_cons] at hr3
          obtain ⟨to, hto⟩ := so.idx (s := (q, r)) hqm (rest_tail hrr)
          refine ⟨_, rfl, .inl ⟨rfl, _, SqL.of hF6⟩, _, rfl, _, rfl, _, 0, y, rfl, rfl, by rw [slen, sizeLine_eq, List.length_cons]; omega, at_head r y, _, rfl, _, rfl, _, rfl, 1, rfl, _, rfl, by rw [slen, sizeLine_eq, List.length_cons]; omega, by show 2 ≤ sizeLine; decide, fun U2 hU2 => ?_⟩
          rw [cut_tail]
          have g2 := Fe.new (o := .tup [vN q, .str ⟨r.toArray⟩]) hU2
          refine ⟨D, .int (to : Int), rfl, by rw [← hkvs_at so.nd hto]; exact DGet.t (k := kSt (q, r)) (g2.k hD6) upd_same, by show 4 ≤ sizeLine; decide, fun U3 hU3 => ?_⟩
          have g3 := Fe.new (o := .tup [.int (i : Int), .str ⟨#[y]⟩, .int 0, .int (to : Int)]) hU3
          have g23 := g2.trans g3
          refine ⟨F, fvs, _, rfl, rfl, g23.k hF6, by rw [sizeLine_eq]; omega, ?_⟩
          have fF : Fx [F] _ _ := Fx.put (o := .lst (fvs ++ [.ref U3])) (g23.k hF6) (List.mem_singleton.mpr rfl) (fun _ z => nomatch z)
          exact ⟨F, fvs ++ [.ref U3], _, _, _, _, _, _, _, _, _, rfl, (e6.trans g23).mut hFn, hFn, upd_same, Al.snoc ⟨U3, _, _, _, _, rfl, fF.tups _ _ upd_same, rfl, rfl, rfl, rfl⟩ (Al.mo fF (Al.mo g23 alf6)), mi.rest so hs hto⟩
        | nil =>
          rw [decide_eq_true rfl]
          refine iteF ?_
          refine ⟨_, rfl, _, rfl, sa, rfl, ⟨_, SqT.of hsa6⟩, fun C hC => lc_tup (xs := sxs) (fun j H' => ∃ l2 : List Mv5, Cmp rMv5 H6 C l2 H' ∧ (∀ e ∈ l2, ∃ o, e.2.1 = kOf o ∧ Told b m sts o e.1 e.2.2.2 e.2.2.1) ∧ (∀ x p to, (q, x, p) ∈ m.2.2.take j → sts[to]? = some (p, []) → (i, [x], 0, to) ∈ l2) ∧ l2.length ≤ j)
            ⟨[], Cmp.start hC, (fun _ h => nomatch h), (fun _ _ _ h => nomatch h), Nat.le_refl _⟩ (fun j H' hj ⟨_, c, _⟩ => SqT.of (c.fe.k hsa6)) (fun j xv H7 hx2 ⟨l2, c, c1, c2, c3⟩ => ?_) (fun H7 ⟨l2, c, c1, c2, c3⟩ => ?_)⟩
          · obtain ⟨⟨a1, a2, a3⟩, hst, hsr⟩ := sal6.get hx2
            obtain ⟨u2, y1, y2, y3, rfl, hu3, rfl, rfl, rfl⟩ := id (Mo.mo (r := rP3 rN rC rN) c.fe hsr)
            have hjl := (List.getElem?_eq_some_iff.mp hst).1
            have htk : m.2.2.take (j + 1) = m.2.2.take j ++ [(a1, a2, a3)] := by rw [List.take_add_one, hst]; rfl
            have hstm := List.mem_of_getElem? hst
            have ha3 := (mok.st _ hstm).2
            obtain ⟨to, hto⟩ := so.idx (s := (a3, [])) ha3 (.inl rfl)
            refine ⟨u2, _, rfl, SqT.of hu3, rfl, _, _, rfl, _, _, rfl, _, _, rfl, rfl, rfl, _, rfl, _, rfl, rfl, _, rfl, ?_⟩
            by_cases q1 : a1 = q
            · subst q1
              rw [decide_eq_true rfl]
              refine iteT ?_
              refine ⟨_, rfl, _, rfl, _, rfl, _, rfl, by show 2 ≤ sizeLine; decide, fun U2 hU2 => ?_⟩
              have g2 := Fe.new (o := .tup [vN a3, .str ""]) hU2
              refine ⟨D, .int (to : Int), rfl, by rw [← hkvs_at so.nd hto]; exact DGet.t (k := kSt (a3, [])) (g2.k (c.fe.k hD6)) (by rw [upd_same, str_nil]; rfl), by show 4 ≤ sizeLine; decide, fun U3 hU3 => ?_⟩
              have g3 := Fe.new (o := .tup [.int (i : Int), .str ⟨#[a2]⟩, .int 0, .int (to : Int)]) hU3
              obtain ⟨acc, b1, b2, b3⟩ := c.add (x := (i, [a2], 0, to)) (y := .ref U3) (by omega) (g2.trans g3) ⟨U3, _, _, _, _, rfl, upd_same, rfl, rfl, rfl, rfl⟩
              refine ⟨acc, b1, b2, l2 ++ [(i, [a2], 0, to)], b3, fun e he => ?_, fun x p to' hm' hto' => ?_, by rw [List.length_append, List.length_singleton]; omega⟩
              · rcases List.mem_append.mp he with he | he
                · exact c1 e he
                · rw [List.mem_singleton.mp he]
                  exact ⟨some a2, rfl, (told_at so hs).mpr ⟨_, hto, .inr (.inl ⟨rfl, rfl, hstm, rfl⟩)⟩⟩
              · rw [htk] at hm'
                rcases List.mem_append.mp hm' with hm' | hm'
                · exact List.mem_append_left _ (c2 x p to' hm' hto')
                · have := List.mem_singleton.mp hm'
                  injection this with _ this
                  injection this with e1 e2
                  subst e1 e2
                  rw [nodup_inj so.nd hto' hto]
                  exact List.mem_append_right _ (List.mem_singleton.mpr rfl)
            · rw [decide_eq_false (fun z => q1 (by have := V.int.inj z; omega))]
              refine iteF ⟨l2, c, c1, fun x p to' hm' hto' => ?_, by omega⟩
              rw [htk] at hm'
              rcases List.mem_append.mp hm' with hm' | hm'
              · exact c2 x p to' hm' hto'
              · have := List.mem_singleton.mp hm'
                injection this with this _
                exact absurd this.symm q1
          · rw [hsll, List.take_length] at c2
            rw [hsll] at c3
            obtain ⟨_, cvs, eC, hCv, alc⟩ := c.rl
            cases eC
            have hcl := alc.len
            have e7 := e6.trans c.fe
            refine ⟨F, C, _, _, rfl, rfl, c.fe.k hF6, hCv, by rw [sizeLine_eq]; omega, fun F2 hF2 => ?_⟩
            have g2 := Fe.new (o := .lst (fvs ++ cvs)) hF2
            have e8 := e7.trans g2
            have hF2v : (upd H7 F2 (.lst (fvs ++ cvs))) F2 = some (.lst (fvs ++ cvs)) := upd_same
            have al8 : Al rMv5 (upd H7 F2 (.lst (fvs ++ cvs))) (fvs ++ cvs) (l ++ l2) := Al.mo g2 (Al.app (Al.mo c.fe alf6) alc)
            have hF2n : H3 F2 = none := e7.free hF2
            generalize upd H7 F2 (.lst (fvs ++ cvs)) = H8 at g2 e8 hF2v al8 ⊢
            generalize fvs ++ cvs = gvs at hF2v al8 ⊢
            refine ⟨_, rfl, bk, _, _, _, rfl, rfl, SqT.of ((e3.trans e8).k hbk), atI_nat (j := 1) rfl, ea, rfl, ⟨_, SqT.of ((e3.trans e8).k hea)⟩, for_tup (xs := exs) (fun j σ' H' => ∃ (F : Addr) (fvs : List V) (l : List Mv5) (o12 o13 o14 o15 o16 : Option V), σ' = [some (.ref bk), some (.ref ma), some (vN m.1), some ven, some (.ref sa), some (.ref S), some (.ref D), o7, some (.ref F), some (vN q), some (.str ⟨([] : List Nat).toArray⟩), some (.int (i : Int)), o12, o13, o14, o15, o16, none, none, none] ∧ Fe H3 H' ∧ H3 F = none ∧ H' F = some (.lst fvs) ∧ Al rMv5 H' fvs l ∧ MvJ b m sts i q j l)
              ⟨F2, gvs, l ++ l2, _, _, _, _, _, rfl, e8, hF2n, hF2v, al8, ?_, ?_, ?_, (fun _ h => nomatch h), ?_⟩ (fun i σ' H' _ ⟨_, _, _, _, _, _, _, _, _, e, _⟩ => SqT.of ((e3.trans e).k hea)) ?_ ?_⟩
            · intro e he
              rcases List.mem_append.mp he with he | he
              · exact mi.ok e he
              · exact c1 e he
            · exact fun o h to c hlt ht => List.mem_append_left _ (mi.all o h to c hlt ht)
            · exact fun x p to hm' hto => List.mem_append_right _ (c2 x p to hm' hto)
            · rw [List.length_append]; omega
            · rintro j x σ' H9 hx2 ⟨F, fvs, l, o12, o13, o14, o15, o16, rfl, e9, hFn, hF, alf, mj⟩
              obtain ⟨e, he, her⟩ := heal.get hx2
              obtain ⟨u2, y1, y2, y3, rfl, hu3, rfl, rfl, rfl⟩ := id (Mo.mo (r := rP3 rS rS rN) (e3.trans e9) her)
              have hem := List.mem_of_getElem? he
              have hjl := (List.getElem?_eq_some_iff.mp he).1
              have hfl := alf.len
              have hml := mj.len
              have hlen3 := bok.len e hem
              refine ⟨u2, _, rfl, SqT.of hu3, rfl, _, _, rfl, _, _, rfl, _, _, rfl, rfl, ?_⟩
              refine ⟨_, rfl, by show 1 ≤ sizeLine; decide, fun hd0 hhd => ?_⟩
              have gh := Fe.new (o := .lst [vN q]) hhd
              have hd0v : (upd H9 hd0 (.lst [vN q])) hd0 = some (.lst [vN q]) := upd_same
              have e10 := e9.trans gh
              have hF10 := gh.k hF
              have alf10 := Al.mo gh alf
              generalize upd H9 hd0 (.lst [vN q]) = HX at gh hd0v e10 hF10 alf10 ⊢
              refine ⟨_, rfl, _, rfl, for_str (l := e.2.1) (fun k σ' H' => ∃ (hd : Addr) (lh : List Nat) (o16 : Option V), σ' = [some (.ref bk), some (.ref ma), some (vN m.1), some ven, some (.ref sa), some (.ref S), some (.ref D), o7, some (.ref F), some (vN q), some (.str ⟨([] : List Nat).toArray⟩), some (.int (i : Int)), some (.str ⟨e.1.toArray⟩), some (.str ⟨e.2.1.toArray⟩), some (vN e.2.2), some (.ref hd), o16, none, none, none] ∧ Fe HX H' ∧ H' hd = some (.lst (lh.map vN)) ∧ lh.length ≤ 60 ∧ ∀ p, p ∈ lh ↔ Lead (Em m) (e.2.1.take k) q p)
                ⟨hd0, [q], _, rfl, Fx.refl _ _, hd0v, by simp, fun p => ?_⟩ ?_ ?_⟩
              · show p ∈ [q] ↔ q = p
                rw [List.mem_singleton]
                exact eq_comm
              · rintro k z σ' HY hz ⟨hd, lh, o16, rfl, gy, hdv, _, hm3⟩
                have eY := e3.trans (e10.trans gy)
                have hsaY := eY.k hsa
                have salY : Al (rP3 rN rC rN) HY sxs m.2.2 := Al.mo eY hsal
                refine ⟨_, rfl, sa, rfl, ⟨_, SqT.of hsaY⟩, fun C hC => lc_tup (xs := sxs) (fun jj H' => Cmp rN HY C (nxtH (m.2.2.take jj) lh z) H') (Cmp.start hC) (fun jj H' hj c => SqT.of (c.fe.k hsaY)) (fun jj xv H' hx3 c => ?_) (fun HZ c => ?_)⟩
                · obtain ⟨st, hst, hsr⟩ := salY.get hx3
                  obtain ⟨u4, w1, w2, w3, rfl, hu5, rfl, rfl, rfl⟩ := id (Mo.mo (r := rP3 rN rC rN) c.fe hsr)
                  rw [nxtH_succ m.2.2 lh z jj st hst]
                  have hnl : (nxtH (m.2.2.take jj) lh z).length < 1000000 := by
                    have h1 := nxtH_len (m.2.2.take jj) lh z
                    rw [List.length_take] at h1
                    omega
                  refine ⟨u4, _, rfl, SqT.of hu5, rfl, _, _, rfl, _, _, rfl, _, _, rfl, rfl, rfl, ?_⟩
                  refine ⟨_, rfl, _, rfl, hd, _, rfl, .inl (SqL.of (c.fe.k hdv)), rfl, flat_nats lh, _, rfl, ?_⟩
                  have einv : (if false = true then !inV (vN st.1) (lh.map vN) else inV (vN st.1) (lh.map vN)) = decide (st.1 ∈ lh) := inV_nats st.1 lh
                  rw [einv]
                  by_cases q1 : st.1 ∈ lh
                  · rw [decide_eq_true q1]
                    refine iteT ⟨_, rfl, _, rfl, rfl, _, rfl, ?_⟩
                    rw [dec_str1]
                    by_cases q2 : st.2.1 = z
                    · rw [decide_eq_true q2.symm, if_pos ⟨q1, q2⟩]
                      exact iteT ⟨_, rfl, c.add hnl (Fx.refl _ _) rfl⟩
                    · rw [decide_eq_false (fun z => q2 z.symm), if_neg (fun z => q2 z.2), List.append_nil]
                      exact iteF c
                  · rw [decide_eq_false q1, if_neg (fun z => q1 z.1), List.append_nil]
                    exact iteF (iteF c)
                · rw [hsll, List.take_length] at c
                  obtain ⟨_, ds, eD, hCv, ald⟩ := c.rl
                  cases eD
                  have hdn := ald.nats
                  subst hdn
                  have hnl := nxtH_len m.2.2 lh z
                  refine ⟨C, (nxtH m.2.2 lh z).map (fun n : Nat => (n : Int)), rfl, by rw [List.map_map]; exact SqL.of hCv, by rw [List.length_map]; omega, fun sa2 n hsa2 hn2 => ?_⟩
                  rw [List.length_map] at hn2
                  have gs := Fe.new (o := SetO w sa2 (fun j => decide (j ∈ (nxtH m.2.2 lh z).map (fun n : Nat => (n : Int)))) n) hsa2
                  refine ⟨sa2, _, n, rfl, upd_same, by omega, fun ns' qq _ hmem hlen' hq => ?_⟩
                  obtain ⟨l', rfl, hl'⟩ := set_back hmem
                  rw [List.length_map] at hlen'
                  have gq := Fe.new (o := .lst ((l'.map fun n : Nat => (n : Int)).map V.int)) hq
                  refine ⟨qq, l', _, rfl, ((gy.trans c.fe).trans gs).trans gq, by rw [upd_same, List.map_map]; rfl, by omega, fun p => ?_⟩
                  rw [hl' p, nxtH_mem, List.take_add_one, hz]
                  show _ ↔ Lead (Em m) (e.2.1.take k ++ [z]) q p
                  rw [Lead.snoc]
                  constructor
                  · rintro ⟨q, h1, h2⟩
                    exact ⟨q, (hm3 q).mp h1, h2⟩
                  · rintro ⟨q, h1, h2⟩
                    exact ⟨q, (hm3 q).mpr h1, h2⟩
              · rintro σ' HY ⟨hd, lh, o16, rfl, gy, hdv, hlh, hm3⟩
                rw [List.take_length] at hm3
                have eY := e10.trans gy
                have hFY := gy.k hF10
                have alY := Al.mo gy alf10
                have hDY := eY.k hD3
                have htk : b.2.take (j + 1) = b.2.take j ++ [e] := by rw [List.take_add_one, he]; rfl
                refine ⟨_, rfl, _, rfl, hd, rfl, ⟨_, SqL.of hdv⟩, fun C hC => lc_list (xs := lh.map vN) (fun jj H' => ∃ l2 : List Mv5, Cmp rMv5 HY C l2 H' ∧ (∀ e ∈ l2, ∃ o, e.2.1 = kOf o ∧ Told b m sts o e.1 e.2.2.2 e.2.2.1) ∧ (∀ p ∈ lh.take jj, ∀ to : Nat, sts[to]? = some (p, e.1.drop 1) → (i, e.1.take 1, e.2.2, to) ∈ l2) ∧ l2.length ≤ jj)
                  ⟨[], Cmp.start hC, (fun _ h => nomatch h), (fun _ h => nomatch h), Nat.le_refl _⟩ (fun jj H' hj ⟨_, c, _⟩ => SqL.of (c.fe.k hdv)) (fun jj xv HZ hx3 ⟨l2, c, c1, c2, c3⟩ => ?_) (fun HZ ⟨l2, c, c1, c2, c3⟩ => ?_)⟩
                · obtain ⟨p, hp, rfl⟩ : ∃ p, lh[jj]? = some p ∧ xv = vN p := by
                    rw [List.getElem?_map] at hx3
                    cases z : lh[jj]? with
                    | none => rw [z] at hx3; cases hx3
                    | some p => rw [z] at hx3; exact ⟨p, rfl, (Option.some.inj hx3).symm⟩
                  have hpl := (hm3 p).mp (List.mem_of_getElem? hp)
                  have hpm := lead_em_lt mok hqm hpl
                  have hjjl := (List.getElem?_eq_some_iff.mp hp).1
                  obtain ⟨to, hto⟩ := so.idx (s := (p, e.1.drop 1)) hpm (rest_drop1 hem)
                  obtain ⟨o, ho1, ho2⟩ := told_edit so hem hs hpl hto
                  have hcd : cutS ⟨e.1.toArray⟩ (some 1) none = ⟨(e.1.drop 1).toArray⟩ := cut_from e.1 1
                  refine ⟨rfl, ?_⟩
                  refine iteT (B := ∃ l2 : List Mv5, Cmp rMv5 HY C l2 HZ ∧ (∀ e ∈ l2, ∃ o, e.2.1 = kOf o ∧ Told b m sts o e.1 e.2.2.2 e.2.2.1) ∧ (∀ p ∈ lh.take (jj + 1), ∀ to : Nat, sts[to]? = some (p, e.1.drop 1) → (i, e.1.take 1, e.2.2, to) ∈ l2) ∧ l2.length ≤ jj + 1) ?_
                  refine ⟨_, rfl, _, rfl, 1, rfl, _, rfl, by rw [slen, sizeLine_eq]; omega, _, rfl, _, rfl, _, rfl, _, rfl, 1, rfl, _, rfl, by rw [slen, sizeLine_eq]; omega, by show 2 ≤ sizeLine; decide, fun U2 hU2 => ?_⟩
                  rw [hcd, cut_one]
                  have g2 := Fe.new (o := .tup [vN p, .str ⟨(e.1.drop 1).toArray⟩]) hU2
                  refine ⟨D, .int (to : Int), rfl, by rw [← hkvs_at so.nd hto]; exact DGet.t (k := kSt (p, e.1.drop 1)) (g2.k (c.fe.k hDY)) upd_same, by show 4 ≤ sizeLine; decide, fun U3 hU3 => ?_⟩
                  have g3 := Fe.new (o := .tup [.int (i : Int), .str ⟨(e.1.take 1).toArray⟩, vN e.2.2, .int (to : Int)]) hU3
                  obtain ⟨acc, b1, b2, b3⟩ := c.add (x := (i, e.1.take 1, e.2.2, to)) (y := .ref U3) (by omega) (g2.trans g3) ⟨U3, _, _, _, _, rfl, upd_same, rfl, rfl, rfl, rfl⟩
                  refine ⟨acc, b1, b2, l2 ++ [(i, e.1.take 1, e.2.2, to)], b3, fun e' he' => ?_, fun p' hp' to' hto' => ?_, by rw [List.length_append, List.length_singleton]; omega⟩
                  · rcases List.mem_append.mp he' with he' | he'
                    · exact c1 e' he'
                    · rw [List.mem_singleton.mp he']
                      exact ⟨o, ho1, ho2⟩
                  · rw [List.take_add_one, hp] at hp'
                    rcases List.mem_append.mp hp' with hp' | hp'
                    · exact List.mem_append_left _ (c2 p' hp' to' hto')
                    · have := List.mem_singleton.mp hp'
                      subst this
                      rw [nodup_inj so.nd hto' hto]
                      exact List.mem_append_right _ (List.mem_singleton.mpr rfl)
                · rw [List.length_map, List.take_length] at c2
                  rw [List.length_map] at c3
                  obtain ⟨_, cvs, eC, hCv, alc⟩ := c.rl
                  cases eC
                  have hcl := alc.len
                  refine ⟨F, C, _, _, rfl, rfl, c.fe.k hFY, hCv, by rw [sizeLine_eq]; omega, fun F3 hF3 => ?_⟩
                  have g2 := Fe.new (o := .lst (fvs ++ cvs)) hF3
                  refine ⟨F3, fvs ++ cvs, l ++ l2, _, _, _, _, _, rfl, (eY.trans c.fe).trans g2, (eY.trans c.fe).free hF3, upd_same, Al.mo g2 (Al.app (Al.mo c.fe alY) alc), fun e' he' => ?_, fun o h to c hlt ht => List.mem_append_left _ (mj.all o h to c hlt ht), fun x p to hm' hto => List.mem_append_left _ (mj.stp x p to hm' hto), fun e' he' p to hlead hto => ?_, by rw [List.length_append]; omega⟩
                  · rcases List.mem_append.mp he' with he' | he'
                    · exact mj.ok e' he'
                    · exact c1 e' he'
                  · rw [htk] at he'
                    rcases List.mem_append.mp he' with he' | he'
                    · exact List.mem_append_left _ (mj.edt e' he' p to hlead hto)
                    · have := List.mem_singleton.mp he'
                      subst this
                      exact List.mem_append_right _ (c2 p ((hm3 p).mpr hlead) to hto)
            · rintro σ' H9 ⟨F, fvs, l, o12, o13, o14, o15, o16, rfl, e9, hFn, hF, alf, mj⟩
              rw [hell] at mj
              exact ⟨F, fvs, l, _, _, _, _, _, _, _, _, rfl, e9, hFn, hF, alf, mj.done so hbl hs⟩
      · rintro σ' H5 ⟨F, fvs, l, o9, o10, o11, o12, o13, o14, o15, o16, rfl, e5, hFn, hF, alf, mi⟩
        rw [hsl] at mi
        refine ⟨_, rfl, _, rfl, by show 2 ≤ sizeLine; decide, fun W hW => ?_⟩
        have gW := Fe.new (o := .lst [.ref S, .ref F]) hW
        exact kk W S F svs fvs rs l _ ((e3.trans e5).trans gW) ((e3.trans e5).free hW) hSn (e3.free hFn) upd_same (gW.k (e5.k hS3)) (gW.k hF) hrs (by rw [hsts]; exact Al.mo (e5.trans gW) al3) (Al.mo gW alf) (by rw [hsts]; exact mi)
end
end Fm
namespace Fm
open PySem L2
/-- least sums by whole operations, begun at the place bg -/
inductive Wh (b : Book) (m : Mach) (t : List Nat) (bg : Nat) : Nat → Nat → Nat → Prop
  | beg : Wh b m t bg bg 0 0
  | sil {pl q c d p : Nat} : Wh b m t bg pl q c → OpS b m [] d q p → Wh b m t bg pl p (c + d)
  | rd {pl q c d p : Nat} {r : List Nat} : Wh b m t bg pl q c → r ≠ [] → OpS b m r d q p → (t.drop pl).take r.length = r → Wh b m t bg (pl + r.length) p (c + d)
def SilS (b : Book) (m : Mach) (q p d : Nat) : Prop := OpS b m [] d q p
/-- what comes to a place from places before k -/
def Ar (b : Book) (m : Mach) (t : List Nat) (bg k pl q c : Nat) : Prop := (pl = bg ∧ q = 0 ∧ c = 0) ∨ ∃ (pl' q' c' : Nat) (r : List Nat) (d : Nat), pl' < k ∧ Wh b m t bg pl' q' c' ∧ r ≠ [] ∧ OpS b m r d q' q ∧ (t.drop pl').take r.length = r ∧ pl = pl' + r.length ∧ c = c' + d
theorem wh_cl {b : Book} {m : Mach} {t : List Nat} {bg pl q c : Nat} : Wh b m t bg pl q c ↔ Cl (SilS b m) (Ar b m t bg pl pl) q c := by
  constructor
  · intro h
    induction h with
    | beg => exact .beg (.inl ⟨rfl, rfl, rfl⟩)
    | sil _ s ih => exact .step ih s
    | @rd pl q c d p r h hr o ht _ =>
      have : 0 < r.length := List.length_pos_iff.mpr hr
      exact .beg (.inr ⟨pl, q, c, r, d, by omega, h, hr, o, ht, rfl, rfl⟩)
  · intro h
    induction h with
    | beg h =>
      rcases h with ⟨rfl, rfl, rfl⟩ | ⟨pl', q', c', r, d, _, hw, hr, o, ht, rfl, rfl⟩
      · exact .beg
      · exact .rd hw hr o ht
    | step _ s ih => exact .sil ih s
theorem wh_ge {b : Book} {m : Mach} {t : List Nat} {bg pl q c : Nat} (h : Wh b m t bg pl q c) : bg ≤ pl := by
  induction h with
  | beg => exact Nat.le_refl _
  | sil _ _ ih => exact ih
  | rd _ _ _ _ ih => omega
theorem ops_lt {b : Book} {m : Mach} (ok : MOk m) {r : List Nat} {d q p : Nat} (hq : q < m.1) (o : OpS b m r d q p) : p < m.1 := by
  obtain ⟨w, _, h⟩ := o
  exact lead_em_lt ok hq h
theorem wh_lt {b : Book} {m : Mach} (ok : MOk m) {t : List Nat} {bg pl q c : Nat} (h : Wh b m t bg pl q c) : q < m.1 := by
  induction h with
  | beg => exact ok.pos
  | sil _ o ih => exact ops_lt ok ih o
  | rd _ _ o _ ih => exact ops_lt ok ih o
/-- the operations' table and OpS -/
theorem OpsOk.to {b : Book} {m : Mach} {ops : List Op} (o : OpsOk b m ops) {i : Nat} {op : Op} (h : ops[i]? = some op) {q p : Nat} {row : List Nat} (hr : op.2.2.2[q]? = some row) (hp : p ∈ row) : OpS b m op.1 op.2.2.1 q p := by
  obtain ⟨h1, h2⟩ := o.ok i op h
  exact ⟨op.2.1, List.mem_of_getElem? h1, (h2.ok q row hr p).mp hp⟩
theorem OpsOk.from_ {b : Book} {m : Mach} {ops : List Op} (o : OpsOk b m ops) {r : List Nat} {d q p : Nat} (hq : q < m.1) (h : OpS b m r d q p) : ∃ (i : Nat) (op : Op) (row : List Nat), ops[i]? = some op ∧ op.1 = r ∧ op.2.2.1 = d ∧ op.2.2.2[q]? = some row ∧ p ∈ row := by
  obtain ⟨w, h1, h2⟩ := h
  obtain ⟨i, hi⟩ := List.mem_iff_getElem?.mp h1
  have hil : i < ops.length := by rw [o.len]; exact (List.getElem?_eq_some_iff.mp hi).1
  have he : ops[i]? = some ops[i] := List.getElem?_eq_getElem hil
  obtain ⟨h3, h4⟩ := o.ok i _ he
  rw [hi] at h3
  have e := Option.some.inj h3
  have hql : q < (ops[i]).2.2.2.length := by rw [h4.len]; exact hq
  have hr := List.getElem?_eq_getElem hql
  refine ⟨i, ops[i], _, he, ?_, ?_, hr, (h4.ok q _ hr p).mpr ?_⟩
  · exact (congrArg (fun z : List Nat × List Nat × Nat => z.1) e).symm
  · exact (congrArg (fun z : List Nat × List Nat × Nat => z.2.2) e).symm
  · have e2 : w = (ops[i]).2.1 := congrArg (fun z : List Nat × List Nat × Nat => z.2.1) e
    rw [← e2]; exact h2
theorem OpsOk.row {b : Book} {m : Mach} {ops : List Op} (o : OpsOk b m ops) {i : Nat} {op : Op} (h : ops[i]? = some op) {q : Nat} (hq : q < m.1) : ∃ row, op.2.2.2[q]? = some row := by
  obtain ⟨_, h2⟩ := o.ok i op h
  exact ⟨_, List.getElem?_eq_getElem (by rw [h2.len]; exact hq)⟩
/-! lists of lists, all alike at first -/
def MatK (x0 : List V) (H1 : Hp) (D : Addr) (i : Nat) (H' : Hp) : Prop := H1 D = none ∧ Fe H1 H' ∧ ∃ qs : List Addr, qs.length = i ∧ H' D = some (.lst (qs.map V.ref)) ∧ qs.Nodup ∧ D ∉ qs ∧ ∀ q ∈ qs, H1 q = none ∧ H' q = some (.lst x0)
theorem MatK.start {x0 : List V} {H1 : Hp} {D : Addr} (h : H1 D = none) : MatK x0 H1 D 0 (upd H1 D (.lst [])) := ⟨h, Fe.new h, [], rfl, upd_same, List.nodup_nil, (by simp), (by simp)⟩
theorem MatK.turn {x0 : List V} {H1 H' H2 : Hp} {D : Addr} {i : Nat} (m : MatK x0 H1 D i H') (hi : i < 1000000) (f : Fe H' H2) {p : Addr} (hp : H2 p = none) :
    ∃ acc, (upd H2 p (.lst x0)) D = some (.lst acc) ∧ acc.length < sizeLine ∧ MatK x0 H1 D (i + 1) (upd (upd H2 p (.lst x0)) D (.lst (acc ++ [.ref p]))) := by
  obtain ⟨h1, e, qs, hl, hD, nd, ne, hq⟩ := m
  have hD2 := f.k hD
  have nDp : D ≠ p := ne_of_none hD2 hp
  have np : p ∉ qs := fun z => by
    have := f.k (hq p z).2
    rw [hp] at this; cases this
  refine ⟨qs.map V.ref, by rw [upd_ne nDp]; exact hD2, by rw [List.length_map, sizeLine_eq]; omega, h1, ((e.trans f).trans (Fe.new hp)).mut h1, qs ++ [p], by rw [List.length_append, List.length_singleton, hl], by rw [upd_same, List.map_append]; rfl, ?_, ?_, ?_⟩
  · rw [List.nodup_append]
    refine ⟨nd, by simp, fun a ha b hb => ?_⟩
    rw [List.mem_singleton.mp hb]
    exact fun z => np (z ▸ ha)
  · rw [List.mem_append, List.mem_singleton]
    exact fun z => z.elim ne nDp
  · intro q z
    rcases List.mem_append.mp z with z | z
    · have a : q ≠ D := fun e => ne (e ▸ z)
      have b : q ≠ p := fun e => np (e ▸ z)
      exact ⟨(hq q z).1, by rw [upd_ne a, upd_ne b]; exact f.k (hq q z).2⟩
    · rw [List.mem_singleton.mp z]
      exact ⟨(e.trans f).free hp, by rw [upd_ne nDp.symm, upd_same]⟩
theorem MatK.mat {α : Type} {r : Rp α} {x0 : List V} {row : List α} {H0 H1 H' : Hp} {D : Addr} {n : Nat} (m : MatK x0 H1 D n H') (e : Fe H0 H1) (ha : Al r H' x0 row) : ∃ qs, Mat r H0 H' D qs (List.replicate n row) := by
  obtain ⟨h1, f, qs, hl, hD, nd, ne, hq⟩ := m
  refine ⟨qs, hD, nd, ne, fun q z => e.free (hq q z).1, e.free h1, by rw [List.length_replicate, hl], fun i q row' a b => ?_⟩
  rw [List.getElem?_replicate] at b
  split at b
  · cases b; exact ⟨x0, (hq q (List.mem_of_getElem? a)).2, ha⟩
  · cases b
/-- an item of a row is written -/
theorem Mat.set {α : Type} {r : Rp α} [Mo r] {H0 H : Hp} {p : Addr} {qs : List Addr} {rows : List (List α)} (M : Mat r H0 H p qs rows) {i j : Nat} {q : Addr} {row : List α} {xs : List V} {v : V} {x : α}
    (hq : qs[i]? = some q) (hr : rows[i]? = some row) (hx : H q = some (.lst xs)) (ha : Al r H xs row) (h : r H v x) : Mat r H0 (upd H q (.lst (xs.set j v))) p qs (rows.set i (row.set j x)) := by
  have hm := List.mem_of_getElem? hq
  have f : Fx [q] H (upd H q (.lst (xs.set j v))) := Fx.put hx (List.mem_singleton.mpr rfl) (fun _ z => nomatch z)
  have np : p ≠ q := fun e => M.ne (e ▸ hm)
  refine ⟨by rw [upd_ne np]; exact M.at_, M.nd, M.ne, M.new, M.newp, by rw [List.length_set]; exact M.len, fun k q' row' h1 h2 => ?_⟩
  by_cases e : i = k
  · subst e
    rw [hq] at h1; cases h1
    rw [List.getElem?_set, if_pos rfl, if_pos (List.getElem?_eq_some_iff.mp hr).1] at h2
    cases h2
    exact ⟨_, upd_same, Al.set (Mo.mo (r := r) f h) _ (Al.mo f ha)⟩
  · rw [List.getElem?_set, if_neg e] at h2
    have ne : q' ≠ q := fun z => e (nd_ix M.nd hq (z ▸ h1))
    obtain ⟨ys, a, b⟩ := M.row k q' row' h1 h2
    exact ⟨ys, by rw [upd_ne ne]; exact a, Al.mo f b⟩
def spAhead : Sp := fun vs H Q _ => ∃ (b : Book) (m : Mach) (ops : List Op) (t : List Nat) (bg : Nat) (v1 : V), vs = [v1, vN m.1, .str ⟨t.toArray⟩, vN bg] ∧ rL rOp H v1 ops ∧ OpsOk b m ops ∧ (∀ op ∈ ops, op.1.length ≤ 1000) ∧ MOk m ∧ m.1 ≤ 60 ∧ bg ≤ t.length ∧ t.length ≤ 100000 ∧
  ∀ (p : Addr) (H' : Hp) (qs : List Addr) (rows : List CRow), Fe H H' → Mat (rO rN) H H' p qs rows → rows.length = t.length + 1 → (∀ (k : Nat) (row : CRow), rows[k]? = some row → LRow m.1 (Wh b m t bg k) row) → Q (.ref p) H'
theorem cut_mid (l : List Nat) (i k : Nat) (h : i ≤ l.length) : cutS ⟨l.toArray⟩ (some (i : Int)) (some ((i : Int) + (k : Int))) = ⟨((l.drop i).take k).toArray⟩ := by
  unfold cutS
  rw [slen, show ((i : Int) + (k : Int)) = ((i + k : Nat) : Int) by omega, HT.sIx_nat, HT.sIx_nat]
  show (⟨((l.drop (min i l.length)).take (min (i + k) l.length - min i l.length)).toArray⟩ : Str) = _
  rw [Nat.min_eq_left h]
  congr 2
  by_cases q : i + k ≤ l.length
  · rw [Nat.min_eq_left q, Nat.add_sub_cancel_left]
  · rw [Nat.min_eq_right (by omega), List.take_of_length_le (by rw [List.length_drop]; exact Nat.le_refl _), List.take_of_length_le (by rw [List.length_drop]; omega)]
/-- what the operations before the i-th bring from the place pl to the place k -/
def AS (b : Book) (m : Mach) (t : List Nat) (bg pl : Nat) (row : CRow) (ops : List Op) (i k q c : Nat) : Prop := Ar b m t bg pl k q c ∨ ∃ (i2 : Nat) (op : Op) (q' c' : Nat) (tr : List Nat), i2 < i ∧ ops[i2]? = some op ∧ op.1 ≠ [] ∧ (t.drop pl).take op.1.length = op.1 ∧ k = pl + op.1.length ∧
  row[q']? = some (some c') ∧ op.2.2.2[q']? = some tr ∧ q ∈ tr ∧ c = c' + op.2.2.1
theorem as_ar {b : Book} {m : Mach} (mok : MOk m) {t : List Nat} {bg pl : Nat} {row row' : CRow} {ops : List Op} (oo : OpsOk b m ops) (hc : LRow m.1 (Wh b m t bg pl) row) {n k : Nat} (L : LRow n (AS b m t bg pl row ops ops.length k) row') : LRow n (Ar b m t bg (pl + 1) k) row' := by
  refine L.imp ?_ ?_
  · rintro q c ((h | ⟨pl', q', c', r, d, h1, h2⟩) | ⟨i2, op, q', c', tr, h1, h2, h3, h4, h5, h6, h7, h8, h9⟩)
    · exact .inl h
    · exact .inr ⟨pl', q', c', r, d, by omega, h2⟩
    · exact .inr ⟨pl, q', c', op.1, op.2.2.1, by omega, hc.snd q' c' h6, h3, oo.to h2 h7 h8, h4, h5, h9⟩
  · rintro q c (h | ⟨pl', q', c', r, d, h1, h2, h3, h4, h5, h6, h7⟩)
    · exact ⟨c, .inl (.inl h), Nat.le_refl _⟩
    · by_cases hp : pl' = pl
      · subst hp
        obtain ⟨c2, g1, g2⟩ := hc.low q' c' h2
        obtain ⟨i2, op, tr, k1, k2, k3, k4, k5⟩ := oo.from_ (wh_lt mok h2) h4
        subst k2 k3
        exact ⟨c2 + op.2.2.1, .inr ⟨i2, op, q', c2, tr, (List.getElem?_eq_some_iff.mp k1).1, k1, h3, h5, h6, g1, k4, k5, rfl⟩, by omega⟩
      · exact ⟨c, .inl (.inr ⟨pl', q', c', r, d, by omega, h2, h3, h4, h5, h6, h7⟩), Nat.le_refl _⟩
def DnO (ops : List Op) (i : Nat) (row : CRow) : Prop := ∀ (i' : Nat) (op : Op), i' < i → ops[i']? = some op → op.1 = [] → ∀ (q : Nat) (tr : List Nat) (p : Nat), op.2.2.2[q]? = some tr → p ∈ tr → Rx row q p op.2.2.1
def DnQ (op : Op) (j : Nat) (row : CRow) : Prop := op.1 = [] → ∀ (q : Nat) (tr : List Nat) (p : Nat), q < j → op.2.2.2[q]? = some tr → p ∈ tr → Rx row q p op.2.2.1
structure SwI (n : Nat) (S : Nat → Nat → Nat → Prop) (A : Nat → Nat → Prop) (M D ph : Nat) (row : CRow) (ag : Bool) : Prop where
  rl : Rlx n S A M D row
  le : Phi (M + n * D) row ≤ ph
  lt : ag = true → Phi (M + n * D) row < ph
section
variable {P : Program} {w : World} {K : PySem.W.Frag} {g : Str → Option Value} {base : Heap}
end
end Fm
/-! the rows of least costs, by the law -/
namespace Fm
open PySem L2
/-- rows that are done, at R, and the one that is filled, at p -/
structure LsI (H0 H : Hp) (R p : Addr) (ps : List Addr) (rows : List CRow) (row : CRow) : Prop where
  fe : Fe H0 H
  r0 : H0 R = none
  p0 : H0 p = none
  rv : H R = some (.lst (ps.map V.ref))
  pv : H p = some (.lst (row.map oV))
  len : ps.length = rows.length
  at_ : ∀ (k : Nat) (q : Addr) (r : CRow), ps[k]? = some q → rows[k]? = some r → H q = some (.lst (r.map oV))
  np : p ∉ ps
  nR : R ∉ ps
  ne : p ≠ R
  nw : ∀ q ∈ ps, H0 q = none
theorem LsI.go {H0 H H' : Hp} {R p : Addr} {ps : List Addr} {rows : List CRow} {row : CRow} (h : LsI H0 H R p ps rows row) (f : Fe H H') : LsI H0 H' R p ps rows row :=
  ⟨h.fe.trans f, h.r0, h.p0, f.k h.rv, f.k h.pv, h.len, fun k q r a b => f.k (h.at_ k q r a b), h.np, h.nR, h.ne, h.nw⟩
theorem LsI.set {H0 H : Hp} {R p : Addr} {ps : List Addr} {rows : List CRow} {row : CRow} (h : LsI H0 H R p ps rows row) (j c : Nat) : LsI H0 (upd H p (.lst ((row.map oV).set j (vN c)))) R p ps rows (row.set j (some c)) :=
  ⟨h.fe.mut h.p0, h.r0, h.p0, by rw [upd_ne h.ne.symm]; exact h.rv, by rw [upd_same, set_oV], h.len, fun k q r a b => by rw [upd_ne (fun e : q = p => h.np (by rw [← e]; exact List.mem_of_getElem? a))]; exact h.at_ k q r a b, h.np, h.nR, h.ne, h.nw⟩
theorem LsI.push {H0 H H2 : Hp} {R p p2 : Addr} {ps : List Addr} {rows : List CRow} {row row2 : CRow} (h : LsI H0 H R p ps rows row) (f : Fe (upd H R (.lst (ps.map V.ref ++ [.ref p]))) H2) (h2 : H2 p2 = none) :
    LsI H0 (upd H2 p2 (.lst (row2.map oV))) R p2 (ps ++ [p]) (rows ++ [row]) row2 := by
  have e1 : Fe H0 (upd H R (.lst (ps.map V.ref ++ [.ref p]))) := h.fe.mut h.r0
  have g := Fe.new (o := .lst (row2.map oV)) h2
  have rv1 : (upd H R (.lst (ps.map V.ref ++ [.ref p]))) R = some (.lst ((ps ++ [p]).map V.ref)) := by rw [upd_same, List.map_append]; rfl
  have pv1 : (upd H R (.lst (ps.map V.ref ++ [.ref p]))) p = some (.lst (row.map oV)) := by rw [upd_ne h.ne]; exact h.pv
  have at1 : ∀ (k : Nat) (q : Addr) (r : CRow), ps[k]? = some q → rows[k]? = some r → (upd H R (.lst (ps.map V.ref ++ [.ref p]))) q = some (.lst (r.map oV)) := fun k q r a b => by rw [upd_ne (fun e : q = R => h.nR (by rw [← e]; exact List.mem_of_getElem? a))]; exact h.at_ k q r a b
  have np2 : p2 ∉ ps := fun z => by
    obtain ⟨k, hk⟩ := List.mem_iff_getElem?.mp z
    obtain ⟨r, hr⟩ : ∃ r, rows[k]? = some r := ⟨_, List.getElem?_eq_getElem (by rw [← h.len]; exact (List.getElem?_eq_some_iff.mp hk).1)⟩
    have := f.k (at1 k p2 r hk hr)
    rw [h2] at this; cases this
  have npp : p2 ≠ p := fun z => by
    have := f.k pv1
    rw [← z, h2] at this; cases this
  have npR : p2 ≠ R := fun z => by
    have := f.k rv1
    rw [← z, h2] at this; cases this
  refine ⟨(e1.trans f).trans g, h.r0, (e1.trans f).free h2, g.k (f.k rv1), upd_same, by rw [List.length_append, List.length_append, h.len]; rfl, fun k q r a b => ?_, ?_, ?_, npR, fun q hq => (List.mem_append.mp hq).elim (h.nw q) fun z => by rw [List.mem_singleton.mp z]; exact h.p0⟩
  · by_cases hk : k < ps.length
    · rw [List.getElem?_append_left hk] at a
      rw [List.getElem?_append_left (by rw [← h.len]; exact hk)] at b
      exact g.k (f.k (at1 k q r a b))
    · have hkl : k < (ps ++ [p]).length := (List.getElem?_eq_some_iff.mp a).1
      rw [List.length_append, List.length_singleton] at hkl
      have hk2 : k = ps.length := by omega
      subst hk2
      rw [List.getElem?_append_right (Nat.le_refl _), Nat.sub_self] at a
      rw [List.getElem?_append_right (by rw [h.len]; exact Nat.le_refl _), h.len, Nat.sub_self] at b
      cases a; cases b
      exact g.k (f.k pv1)
  · rw [List.mem_append, List.mem_singleton]
    exact fun z => z.elim np2 npp
  · rw [List.mem_append, List.mem_singleton]
    exact fun z => z.elim h.nR (fun e => h.ne e.symm)
/-- what a row begins with -/
def Beg (b : Book) (m : Mach) (sts : List Stg) (t : List Nat) : Nat → Nat → Nat → Prop
  | 0 => A0 sts
  | i + 1 => fun to c => ∃ x, t[i]? = some x ∧ Bh (Told b m sts (some x)) (Rc b m sts (t.take i)) to c
theorem beg_cl {b : Book} {m : Mach} {sts : List Stg} {t : List Nat} {i : Nat} (hi : i ≤ t.length) : Cl (Told b m sts none) (Beg b m sts t i) = Rc b m sts (t.take i) := by
  cases i with
  | zero => rfl
  | succ i =>
    have hx : t[i]? = some (t[i]'(by omega)) := List.getElem?_eq_getElem _
    rw [List.take_add_one, hx]
    show _ = Rc b m sts (t.take i ++ [t[i]'(by omega)])
    rw [Rc.snoc]
    unfold nxt
    congr 1
    funext to c
    apply propext
    constructor
    · rintro ⟨x, h1, h2⟩
      rw [hx] at h1; cases h1; exact h2
    · exact fun h => ⟨_, hx, h⟩
/-- what the moves before the k-th bring by the letter x -/
def BrI (l : List Mv5) (row : CRow) (x k to c : Nat) : Prop := ∃ (j : Nat) (e : Mv5) (c0 : Nat), j < k ∧ l[j]? = some e ∧ e.2.1 = [x] ∧ row[e.1]? = some (some c0) ∧ to = e.2.2.2 ∧ c = c0 + e.2.2.1
theorem bri_beg {b : Book} {m : Mach} {sts : List Stg} {l : List Mv5} (mo : MvsOk b m sts l) {t : List Nat} {i x : Nat} (hx : t[i]? = some x) {row after : CRow} (hr : LRow sts.length (Rc b m sts (t.take i)) row) (h : LRow sts.length (BrI l row x l.length) after) : LRow sts.length (Beg b m sts t (i + 1)) after := by
  refine h.imp ?_ ?_
  · rintro to c ⟨j, e, c0, h1, h2, h3, h4, rfl, rfl⟩
    obtain ⟨o, h5, h6⟩ := mo.ok e (List.mem_of_getElem? h2)
    have : o = some x := by
      rw [h3] at h5
      cases o with
      | none => cases h5
      | some y => injection h5 with h5 _; rw [h5]
    subst this
    exact ⟨x, hx, e.1, c0, e.2.2.1, hr.snd _ _ h4, h6, rfl⟩
  · rintro to c ⟨y, h1, h0, c0, d, h2, h3, rfl⟩
    rw [hx] at h1; cases h1
    obtain ⟨c', h4, h5⟩ := hr.low _ _ h2
    obtain ⟨j, hj⟩ := List.mem_iff_getElem?.mp (mo.all (some x) h0 to d (told_lt h3).1 h3)
    exact ⟨c' + d, ⟨j, _, c', (List.getElem?_eq_some_iff.mp hj).1, hj, rfl, h4, rfl, rfl⟩, by omega⟩
/-- moves that read nothing are heeded, the first k -/
def DnM (l : List Mv5) (k : Nat) (row : CRow) : Prop := ∀ (j : Nat) (e : Mv5), j < k → l[j]? = some e → e.2.1 = [] → Rx row e.1 e.2.2.2 e.2.2.1
theorem dec_strs (l r : List Nat) : decide (V.str ⟨l.toArray⟩ = V.str ⟨r.toArray⟩) = decide (l = r) := by
  refine decide_eq_decide.mpr ⟨fun h => ?_, fun h => by rw [h]⟩
  have := congrArg Str.cps (V.str.inj h)
  simpa using this
theorem told_cost50 {b : Book} {m : Mach} {sts : List Stg} {k : Option Nat} {h to c N : Nat} (hb : ∀ e ∈ b.2, e.2.2 ≤ N) (t : Told b m sts k h to c) : c ≤ N := by
  obtain ⟨s, s', _, _, mv⟩ := t
  cases k with
  | none => obtain ⟨_, _, wr, h, _⟩ := mv; exact hb _ h
  | some x =>
    rcases mv with ⟨_, _, _, rfl⟩ | ⟨_, _, _, rfl⟩ | ⟨_, rd, wr, h, _⟩
    · omega
    · omega
    · exact hb _ h
def spLLeast : Sp := fun vs H Q _ => ∃ (b : Book) (m : Mach) (sts : List Stg) (l : List Mv5) (t : List Nat) (v1 : V), vs = [v1, vN sts.length, .str ⟨t.toArray⟩] ∧ rL rMv5 H v1 l ∧ MvsOk b m sts l ∧ (∀ e ∈ l, e.2.2.1 ≤ 50) ∧ SOk b m sts ∧ sts[0]? = some (0, []) ∧ sts.length ≤ 4000 ∧ t.length ≤ 1000 ∧
  ∀ (R : Addr) (ps : List Addr) (rows : List CRow) (H' : Hp), Fe H H' → H R = none → (∀ q ∈ ps, H q = none) → H' R = some (.lst (ps.map V.ref)) → ps.length = rows.length → rows.length = t.length + 1 → (∀ (k : Nat) (q : Addr) (r : CRow), ps[k]? = some q → rows[k]? = some r → H' q = some (.lst (r.map oV))) →
    (∀ (k : Nat) (r : CRow), rows[k]? = some r → LRow sts.length (Rc b m sts (t.take k)) r) → (∀ (k : Nat) (r : CRow) (h c : Nat), rows[k]? = some r → r[h]? = some (some c) → c ≤ (k + 1) * ((sts.length + 1) * 50)) → Q (.ref R) H'
section
variable {P : Program} {w : World} {K : PySem.W.Frag} {g : Str → Option Value} {base : Heap}
theorem ok_law_least (T : Txt K g) : FnOk P w K g base CX0 1 T.d_law_least.f T.d_law_least.fd P_law_least spLLeast := by
  refine T.d_law_least.F.ok sc_law_least (fun vs H Q E h => ?_) (fun cdv A outer s H vs Q E hr h => ?_)
  · obtain ⟨_, _, _, _, _, _, rfl, _⟩ := h
    rfl
  · obtain ⟨b, m, sts, l, t, v1, rfl, hl, mo, hco, so, h0, hst4, htl, kk⟩ := h
    have hu := hu_of hr
    refine ⟨_, (pss_cons (ps_set (i := 3) sc_law_least.nd rfl (by first | exact Or.inl rfl | exact Or.inr rfl) (pe_lst pa_nil))
    (pss_cons (ps_set (i := 4) sc_law_least.nd rfl (by first | exact Or.inl rfl | exact Or.inr rfl) (pe_op op_rep (pe_lst (pa_cons pe_non pa_nil)) (pv 1)))
    (pss_cons (ps_asg pe_int (pg_sub (pv 4) pe_int set_list))
    (pss_cons (ps_for PassesOwn.never rfl (pi_range1 rfl T.z_range (pa_cons (pe_op op_add (pe_callB kc_lenS (by rfl) T.z_len PySem.boot_len (pa_cons (pv 2) pa_nil)) pe_int) pa_nil)) (pg_name (i := 5) sc_law_least.nd rfl (by first | exact Or.inl rfl | exact Or.inr rfl))
      (pss_cons (ps_set (i := 6) sc_law_least.nd rfl (by first | exact Or.inl rfl | exact Or.inr rfl) pe_bl)
      (pss_cons (ps_while PassesOwn.never (pt_val (pv 6))
        (pss_cons (ps_set (i := 6) sc_law_least.nd rfl (by first | exact Or.inl rfl | exact Or.inr rfl) pe_bl)
        (pss_one (ps_for PassesOwn.never rfl (ki_list (K := K) rfl (pv 0)) (kg_tup (K := K) 4 rfl rfl (pgs_cons (pg_name (i := 7) sc_law_least.nd rfl (by first | exact Or.inl rfl | exact Or.inr rfl)) (pgs_cons (pg_name (i := 8) sc_law_least.nd rfl (by first | exact Or.inl rfl | exact Or.inr rfl)) (pgs_cons (pg_name (i := 9) sc_law_least.nd rfl (by first | exact Or.inl rfl | exact Or.inr rfl)) (pgs_cons (pg_name (i := 10) sc_law_least.nd rfl (by first | exact Or.inl rfl | exact Or.inr rfl)) pgs_nil)))))
          (pss_one (ps_if (PW.pt (pw_and (pt_cmpR op_eq (pv 8) pe_str (nomark _)) (pw_and (pt_cmpR op_notN (pe_ix (kx_list (K := K) rfl) (pv 4) (pv 7) (fun _ _ => rfl)) pe_non (nomark _)) (pw_and1 (PW.pt (pw_or (pt_cmpR op_isN (pe_ix (kx_list (K := K) rfl) (pv 4) (pv 10) (fun _ _ => rfl)) pe_non (nomark _)) (pw_or1 (pt_cmpR op_gt (pe_ix (kx_list (K := K) rfl) (pv 4) (pv 10) (fun _ _ => rfl)) (pe_op op_add (pe_ix (kx_list (K := K) rfl) (pv 4) (pv 7) (fun _ _ => rfl)) (pv 9)) (nomark _)))))))))
            (pss_cons (ps_asg (pe_op op_add (pe_ix (kx_list (K := K) rfl) (pv 4) (pv 7) (fun _ _ => rfl)) (pv 9)) (pg_sub (pv 4) (pv 10) set_list))
            (pss_one (ps_set (i := 6) sc_law_least.nd rfl (by first | exact Or.inl rfl | exact Or.inr rfl) pe_bl)))
            pss_nil))))))
      (pss_cons (ps_expr (ke_bm (K := K) rfl PySem.F.plainAttrs_list PySem.F.slot_list_append PySem.F.type_list_append mt_append (pv 3) (pa_cons (pv 4) pa_nil)))
      (pss_cons (ps_set (i := 11) sc_law_least.nd rfl (by first | exact Or.inl rfl | exact Or.inr rfl) (pe_op op_rep (pe_lst (pa_cons pe_non pa_nil)) (pv 1)))
      (pss_cons (ps_if (pt_cmpR op_lt (pv 5) (pe_callB kc_lenS (by rfl) T.z_len PySem.boot_len (pa_cons (pv 2) pa_nil)) (nomark _))
        (pss_one (ps_for PassesOwn.never rfl (ki_list (K := K) rfl (pv 0)) (kg_tup (K := K) 4 rfl rfl (pgs_cons (pg_name (i := 7) sc_law_least.nd rfl (by first | exact Or.inl rfl | exact Or.inr rfl)) (pgs_cons (pg_name (i := 8) sc_law_least.nd rfl (by first | exact Or.inl rfl | exact Or.inr rfl)) (pgs_cons (pg_name (i := 9) sc_law_least.nd rfl (by first | exact Or.inl rfl | exact Or.inr rfl)) (pgs_cons (pg_name (i := 10) sc_law_least.nd rfl (by first | exact Or.inl rfl | exact Or.inr rfl)) pgs_nil)))))
          (pss_one (ps_if (PW.pt (pw_and (pt_cmpR op_eq (pv 8) (pe_ix ix_str (pv 2) (pv 5) (fun _ _ => rfl)) (nomark _)) (pw_and (pt_cmpR op_notN (pe_ix (kx_list (K := K) rfl) (pv 4) (pv 7) (fun _ _ => rfl)) pe_non (nomark _)) (pw_and1 (PW.pt (pw_or (pt_cmpR op_isN (pe_ix (kx_list (K := K) rfl) (pv 11) (pv 10) (fun _ _ => rfl)) pe_non (nomark _)) (pw_or1 (pt_cmpR op_gt (pe_ix (kx_list (K := K) rfl) (pv 11) (pv 10) (fun _ _ => rfl)) (pe_op op_add (pe_ix (kx_list (K := K) rfl) (pv 4) (pv 7) (fun _ _ => rfl)) (pv 9)) (nomark _)))))))))
            (pss_one (ps_asg (pe_op op_add (pe_ix (kx_list (K := K) rfl) (pv 4) (pv 7) (fun _ _ => rfl)) (pv 9)) (pg_sub (pv 11) (pv 10) set_list)))
            pss_nil))))
        pss_nil)
      (pss_one (ps_set (i := 4) sc_law_least.nd rfl (by first | exact Or.inl rfl | exact Or.inr rfl) (pv 11)))))))))
    (pss_one (ps_ret (pv 3))))))), ?_⟩
    obtain ⟨oa, oxs, rfl, hoa, hol⟩ := id hl
    have hoxl := hol.len
    have hpos : 0 < sts.length := (List.getElem?_eq_some_iff.mp h0).1
    refine ⟨Nat.zero_le _, fun R hR => ?_⟩
    have gR := Fe.new (o := .lst []) hR
    have R0 : (upd H R (.lst [])) R = some (.lst []) := upd_same
    generalize upd H R (.lst []) = H1 at gR R0
    refine ⟨by show 1 ≤ sizeLine; decide, fun p1 hp1 => ?_⟩
    have g1 := Fe.new (o := .lst [.non]) hp1
    refine ⟨_, rfl, p1, _, _, rfl, rfl, upd_same, by omega, by omega, by rw [sizeLine_eq]; simp only [List.length_singleton]; omega, fun p2 hp2 => ?_⟩
    rw [rep_oV, Int.toNat_natCast]
    have g2 := Fe.new (o := .lst ((List.replicate sts.length none : CRow).map oV)) hp2
    have e2 := (gR.trans g1).trans g2
    have hp2n : H p2 = none := (gR.trans g1).free hp2
    have ne2 : p2 ≠ R := fun z => by
      have := g1.k R0
      rw [← z, hp2] at this; cases this
    have L0 : LsI H _ R p2 [] [] (List.replicate sts.length none) := ⟨e2, hR, hp2n, g2.k (g1.k R0), upd_same, rfl, (fun _ _ _ h => nomatch h), (fun h => nomatch h), (fun h => nomatch h), ne2, (fun _ h => nomatch h)⟩
    refine ⟨_, rfl, p2, _, _, 0, rfl, rfl, L0.pv, ?_, ?_⟩
    · have : ixN ((List.replicate sts.length none : CRow).map oV).length ((0 : Nat) : Int) = some 0 := ixn (by rw [List.length_map, List.length_replicate]; exact hpos)
      exact this
    have L1 := L0.set 0 0
    have hA0 : LRow sts.length (Beg b m sts t 0) ((List.replicate sts.length none).set 0 (some 0)) := by
      refine ((LRow.nothing sts.length).put (to := 0) (v := 0) (o := none) (by rw [List.getElem?_replicate, if_pos hpos]) bet_none).imp (fun h c z => ?_) (fun h c z => ⟨c, ?_, Nat.le_refl _⟩)
      · rcases z with z | ⟨rfl, rfl⟩
        · exact z.elim
        · exact ⟨h0, rfl⟩
      · exact .inr ⟨nodup_inj so.nd z.1 h0, z.2⟩
    refine ⟨_, rfl, _, rfl, by rw [slen, sizeLine_eq]; omega, _, _, rfl, rfl, _, rfl, by rw [slen]; omega, by rw [slen]; omega, ?_⟩
    have hcn : (((⟨t.toArray⟩ : Str).length : Int) + 1).toNat = t.length + 1 := by rw [slen]; omega
    rw [hcn]
    refine for_range (lo := 0) (n := t.length + 1) (fun i σ' H' => ∃ (p : Addr) (ps : List Addr) (rows : List CRow) (row : CRow) (o5 o6 o7 o8 o9 o10 o11 : Option V), σ' = [some (.ref oa), some (vN sts.length), some (.str ⟨t.toArray⟩), some (.ref R), some (.ref p), o5, o6, o7, o8, o9, o10, o11] ∧ LsI H H' R p ps rows row ∧ rows.length = i ∧
      (∀ (k : Nat) (r : CRow), rows[k]? = some r → LRow sts.length (Rc b m sts (t.take k)) r) ∧ LRow sts.length (Beg b m sts t i) row ∧ (∀ (k : Nat) (r : CRow) (h c : Nat), rows[k]? = some r → r[h]? = some (some c) → c ≤ (k + 1) * ((sts.length + 1) * 50)) ∧ ∀ h c : Nat, row[h]? = some (some c) → c ≤ i * ((sts.length + 1) * 50)) ⟨p2, [], [], _, _, _, _, _, _, _, _, rfl, L1, rfl, (fun _ _ h => nomatch h), hA0, (fun _ _ _ _ h => nomatch h), fun h c z => by have := (hA0.snd h c z).2; omega⟩ ?_ ?_
    · rintro i σ' H' hi ⟨p, ps, rows, row, o5, o6, o7, o8, o9, o10, o11, rfl, L, hrl, hrows, hA, hrb, hMx⟩
      rw [show ((0:Int)+(i:Int)) = (i:Int) from Int.zero_add _]
      obtain ⟨Mx, hMxe⟩ : ∃ Mx, Mx = i * ((sts.length + 1) * 50) := ⟨_, rfl⟩
      rw [← hMxe] at hMx
      obtain ⟨Dx, hDxe⟩ : ∃ Dx : Nat, Dx = 50 := ⟨_, rfl⟩
      -- while again
      refine ⟨fun k σ' H' => ∃ (row' : CRow) (ag : Bool) (o7 o8 o9 o10 : Option V), σ' = [some (.ref oa), some (vN sts.length), some (.str ⟨t.toArray⟩), some (.ref R), some (.ref p), some (.int (i : Int)), some (.bl ag), o7, o8, o9, o10, o11] ∧ LsI H H' R p ps rows row' ∧
        Rlx sts.length (Told b m sts none) (Beg b m sts t i) Mx Dx row' ∧ (ag = false → DnM l l.length row') ∧ k = 2 * Phi (Mx + sts.length * Dx) row' + (if ag then 1 else 0), ⟨_, row, true, _, _, _, _, rfl, L, .start hA hMx, (fun z => nomatch z), rfl⟩, ?_⟩
      clear hA L
      rintro kq σ' H2 ⟨row1, ag, o7, o8, o9, o10, rfl, L2, R2, hdn, rfl⟩
      refine ⟨_, rfl, ag, rfl, ?_⟩
      cases ag with
      | true =>
        refine iteT ⟨_, fun σ' H' h => h, ?_⟩
        -- one sweep
        refine ⟨_, rfl, oa, rfl, ⟨_, SqL.of (L2.fe.k hoa)⟩, for_lst (xs := oxs) (fun i' σ' H' => ∃ (row' : CRow) (ag : Bool) (o7 o8 o9 o10 : Option V), σ' = [some (.ref oa), some (vN sts.length), some (.str ⟨t.toArray⟩), some (.ref R), some (.ref p), some (.int (i : Int)), some (.bl ag), o7, o8, o9, o10, o11] ∧ LsI H H' R p ps rows row' ∧
          SwI sts.length (Told b m sts none) (Beg b m sts t i) Mx Dx (Phi (Mx + sts.length * Dx) row1) row' ag ∧ (ag = false → DnM l i' row')) ⟨row1, false, _, _, _, _, rfl, L2, ⟨R2, Nat.le_refl _, fun z => nomatch z⟩, fun _ j e h => absurd h (by omega)⟩ (fun i' σ' H' _ ⟨_, _, _, _, _, _, _, L, _⟩ => L.fe.k hoa) ?_ ?_⟩
        · clear hdn R2 L2
          rintro i' xv σ' H3 hx ⟨row3, ag, o7, o8, o9, o10, rfl, L3, sw3, hd3⟩
          obtain ⟨e, he, her⟩ := hol.get hx
          have hem := List.mem_of_getElem? he
          obtain ⟨o, ho1, ho2⟩ := mo.ok e hem
          have hlt := told_lt ho2
          obtain ⟨u, x1, x2, x3, x4, rfl, hu1, rfl, rfl, rfl, rfl⟩ := id (Me.go her L3.fe)
          have hl3 := sw3.rl.len
          refine ⟨u, _, rfl, SqT.of hu1, rfl, _, _, rfl, _, _, rfl, _, _, rfl, _, _, rfl, rfl, ?_⟩
          refine ⟨_, rfl, rfl, _, rfl, ?_⟩
          rw [dec_str_nil]
          by_cases hrd : e.2.1 = []
          · rw [decide_eq_true hrd]
            have hS : Told b m sts none e.1 e.2.2.2 e.2.2.1 := by
              rw [hrd] at ho1
              cases o with
              | none => exact ho2
              | some y => cases ho1
            obtain ⟨oc, hoc⟩ : ∃ oc, row3[e.1]? = some oc := ⟨_, List.getElem?_eq_getElem (by rw [hl3]; exact hlt.1)⟩
            obtain ⟨oo1, hoo⟩ : ∃ oo1, row3[e.2.2.2]? = some oo1 := ⟨_, List.getElem?_eq_getElem (by rw [hl3]; exact hlt.2)⟩
            have hp2 : e.2.2.2 < (row3.map oV).length := by rw [List.length_map, hl3]; exact hlt.2
            have more : ∀ row' : CRow, (∀ j e', j < i' → l[j]? = some e' → e'.2.1 = [] → Rx row' e'.1 e'.2.2.2 e'.2.2.1) → Rx row' e.1 e.2.2.2 e.2.2.1 → DnM l (i' + 1) row' := fun row' h1 h2 j e' hj he' hr' => by
              rcases (by omega : j < i' ∨ j = i') with z | rfl
              · exact h1 j e' z he' hr'
              · rw [he] at he'; cases he'; exact h2
            refine iteT ⟨_, rfl, _, rfl, p, _, _, _, rfl, rfl, SqL.of L3.pv, atI_nat (at_oV hoc), rfl, _, rfl, ?_⟩
            cases oc with
            | none =>
              exact iteF (iteF ⟨row3, ag, _, _, _, _, rfl, L3, sw3, fun z => more row3 (hd3 z) fun c hc => by rw [hoc] at hc; cases hc⟩)
            | some c =>
              refine iteT ?_
              have fin : Bet oo1 (c + e.2.2.1) → SwI sts.length (Told b m sts none) (Beg b m sts t i) Mx Dx (Phi (Mx + sts.length * Dx) row1) (row3.set e.2.2.2 (some (c + e.2.2.1))) true := fun hb => by
                obtain ⟨R6, ph6⟩ := sw3.rl.put hoc hS (by rw [hDxe]; exact hco e hem) hoo hb
                have hle := sw3.le
                exact ⟨R6, by omega, fun _ => by omega⟩
              refine ⟨_, rfl, _, rfl, p, _, _, _, rfl, rfl, SqL.of L3.pv, atI_nat (at_oV hoo), rfl, _, rfl, ?_⟩
              cases oo1 with
              | none =>
                refine iteT (iteT ?_)
                refine ⟨_, rfl, _, rfl, p, _, _, _, rfl, rfl, SqL.of L3.pv, atI_nat (at_oV hoc), _, rfl, _, _, rfl, rfl, _, rfl, _, rfl, p, _, _, _, rfl, rfl, L3.pv, ixn hp2, ?_⟩
                exact ⟨_, true, _, _, _, _, rfl, L3.set _ _, fin bet_none, fun z => nomatch z⟩
              | some e6 =>
                refine iteF ⟨_, rfl, _, rfl, p, _, _, _, rfl, rfl, SqL.of L3.pv, atI_nat (at_oV hoo), _, rfl, _, rfl, p, _, _, _, rfl, rfl, SqL.of L3.pv, atI_nat (at_oV hoc), _, rfl, _, _, rfl, rfl, _, _, rfl, rfl, _, rfl, ?_⟩
                by_cases hlt2 : c + e.2.2.1 < e6
                · rw [decide_eq_true (show ((c : Int) + (e.2.2.1 : Int) < (e6 : Int)) by omega)]
                  refine iteT ?_
                  refine ⟨_, rfl, _, rfl, p, _, _, _, rfl, rfl, SqL.of L3.pv, atI_nat (at_oV hoc), _, rfl, _, _, rfl, rfl, _, rfl, _, rfl, p, _, _, _, rfl, rfl, L3.pv, ixn hp2, ?_⟩
                  exact ⟨_, true, _, _, _, _, rfl, L3.set _ _, fin (bet_some.mpr hlt2), fun z => nomatch z⟩
                · rw [decide_eq_false (show ¬ ((c : Int) + (e.2.2.1 : Int) < (e6 : Int)) by omega)]
                  exact iteF ⟨row3, ag, _, _, _, _, rfl, L3, sw3, fun z => more row3 (hd3 z) (Rx.well hoc hoo fun z => hlt2 (bet_some.mp z))⟩
          · rw [decide_eq_false hrd]
            refine iteF (iteF ⟨row3, ag, _, _, _, _, rfl, L3, sw3, fun z j e' hj he' hr' => ?_⟩)
            rcases (by omega : j < i' ∨ j = i') with z2 | rfl
            · exact hd3 z j e' z2 he' hr'
            · rw [he] at he'; cases he'; exact absurd hr' hrd
        · rintro σ' H3 ⟨row3, ag, o7, o8, o9, o10, rfl, L3, sw3, hd3⟩
          have hle := sw3.le
          have hlt := sw3.lt
          rw [hoxl] at hd3
          refine ⟨2 * Phi (Mx + sts.length * Dx) row3 + (if ag then 1 else 0), ?_, row3, ag, _, _, _, _, rfl, L3, sw3.rl, hd3, rfl⟩
          cases ag with
          | true => have := hlt rfl; simp only [if_true]; omega
          | false => simp only [if_true, Bool.false_eq_true, if_false]; omega
      | false =>
        refine iteF ?_
        have hi2 : i ≤ t.length := by omega
        have hcl : LRow sts.length (Rc b m sts (t.take i)) row1 := by
          have := R2.done fun q p d h => ?_
          · rw [beg_cl hi2] at this; exact this
          · obtain ⟨j, hj⟩ := List.mem_iff_getElem?.mp (mo.all none q p d (told_lt h).1 h)
            exact hdn rfl j _ (List.getElem?_eq_some_iff.mp hj).1 hj rfl
        have hc1 := hcl.len
        have hcap : ∀ h c : Nat, row1[h]? = some (some c) → c + 50 ≤ (i + 1) * ((sts.length + 1) * 50) := fun h c z => by
          have := R2.capB z
          rw [hMxe, hDxe] at this
          have h2 : (sts.length + 1) * 50 = sts.length * 50 + 50 := by omega
          rw [Nat.succ_mul]
          omega
        have hpsl := L2.len
        -- rows.append(row); after = [None] * many
        refine ⟨_, rfl, .inl ⟨rfl, _, SqL.of L2.rv⟩, _, rfl, R, _, _, rfl, rfl, L2.rv, by rw [List.length_map, sizeLine_eq]; omega, ?_⟩
        refine ⟨by show 1 ≤ sizeLine; decide, fun p3 hp3 => ?_⟩
        have g3 := Fe.new (o := .lst [.non]) hp3
        refine ⟨_, rfl, p3, _, _, rfl, rfl, upd_same, by omega, by omega, by rw [sizeLine_eq]; simp only [List.length_singleton]; omega, fun p4 hp4 => ?_⟩
        rw [rep_oV, Int.toNat_natCast]
        have L4 := L2.push (row2 := List.replicate sts.length none) g3 hp4
        generalize upd (upd (upd H2 R (.lst (ps.map V.ref ++ [.ref p]))) p3 (.lst [.non])) p4 (.lst ((List.replicate sts.length none : CRow).map oV)) = H4 at L4 ⊢
        have hrows4 : ∀ (k : Nat) (r : CRow), (rows ++ [row1])[k]? = some r → LRow sts.length (Rc b m sts (t.take k)) r := fun k r hk => by
          by_cases hk2 : k < rows.length
          · rw [List.getElem?_append_left hk2] at hk
            exact hrows k r hk
          · have hkl := (List.getElem?_eq_some_iff.mp hk).1
            rw [List.length_append, List.length_singleton] at hkl
            have hk3 : k = rows.length := by omega
            subst hk3
            rw [List.getElem?_append_right (Nat.le_refl _), Nat.sub_self] at hk
            cases hk
            rw [hrl]; exact hcl
        have hrb4 : ∀ (k : Nat) (r : CRow) (h c : Nat), (rows ++ [row1])[k]? = some r → r[h]? = some (some c) → c ≤ (k + 1) * ((sts.length + 1) * 50) := fun k r h c hk hc => by
          by_cases hk2 : k < rows.length
          · rw [List.getElem?_append_left hk2] at hk
            exact hrb k r h c hk hc
          · have hkl := (List.getElem?_eq_some_iff.mp hk).1
            rw [List.length_append, List.length_singleton] at hkl
            have hk3 : k = rows.length := by omega
            subst hk3
            rw [List.getElem?_append_right (Nat.le_refl _), Nat.sub_self] at hk
            cases hk
            have := hcap h c hc
            rw [hrl]; omega
        have hrl4 : (rows ++ [row1]).length = i + 1 := by rw [List.length_append, hrl]; rfl
        have hpi : (ps ++ [p])[i]? = some p := by rw [List.getElem?_append_right (by omega), show i - ps.length = 0 by omega]; rfl
        have hri : (rows ++ [row1])[i]? = some row1 := by rw [List.getElem?_append_right (by omega), show i - rows.length = 0 by omega]; rfl
        generalize ps ++ [p] = ps4 at L4 hpi
        generalize rows ++ [row1] = rows4 at L4 hrows4 hrl4 hri hrb4
        refine ⟨_, rfl, _, rfl, _, rfl, by rw [slen, sizeLine_eq]; omega, _, _, rfl, rfl, _, rfl, ?_⟩
        rw [slen]
        by_cases hit : i < t.length
        · rw [decide_eq_true (by omega)]
          refine iteT ?_
          obtain ⟨x, hx⟩ : ∃ x, t[i]? = some x := ⟨_, List.getElem?_eq_getElem hit⟩
          refine ⟨_, rfl, oa, rfl, ⟨_, SqL.of (L4.fe.k hoa)⟩, for_lst (xs := oxs) (fun i' σ' H' => ∃ (aft : CRow) (o7 o8 o9 o10 : Option V), σ' = [some (.ref oa), some (vN sts.length), some (.str ⟨t.toArray⟩), some (.ref R), some (.ref p), some (.int (i : Int)), some (.bl false), o7, o8, o9, o10, some (.ref p4)] ∧ LsI H H' R p4 ps4 rows4 aft ∧ LRow sts.length (BrI l row1 x i') aft)
            ⟨_, _, _, _, _, rfl, L4, (LRow.nothing sts.length).imp (fun _ _ z => z.elim) (fun _ _ ⟨j, _, _, z, _⟩ => by omega)⟩ (fun i' σ' H' _ ⟨_, _, _, _, _, _, L, _⟩ => L.fe.k hoa) ?_ ?_⟩
          · rintro i' xv σ' H3 hxv ⟨aft, o7, o8, o9, o10, rfl, L3, hR3⟩
            obtain ⟨e, he, her⟩ := hol.get hxv
            have hem := List.mem_of_getElem? he
            obtain ⟨o, ho1, ho2⟩ := mo.ok e hem
            have hlt := told_lt ho2
            obtain ⟨u, x1, x2, x3, x4, rfl, hu1, rfl, rfl, rfl, rfl⟩ := id (Me.go her L3.fe)
            have hpv := L3.at_ i p row1 hpi hri
            have hl3 := hR3.len
            refine ⟨u, _, rfl, SqT.of hu1, rfl, _, _, rfl, _, _, rfl, _, _, rfl, _, _, rfl, rfl, ?_⟩
            refine ⟨_, rfl, _, rfl, _, rfl, ⟨t.toArray⟩, _, x, rfl, rfl, by rw [slen, sizeLine_eq]; omega, atI_nat hx, rfl, _, rfl, ?_⟩
            have ed : decide (V.str ⟨e.2.1.toArray⟩ = V.str ⟨#[x]⟩) = decide (e.2.1 = [x]) := dec_strs e.2.1 [x]
            rw [ed]
            have skip : (∀ c0, e.2.1 = [x] → row1[e.1]? ≠ some (some c0)) → LRow sts.length (BrI l row1 x (i' + 1)) aft := fun hn => hR3.imp (fun to c ⟨j, e', c0, a1, a2⟩ => ⟨j, e', c0, by omega, a2⟩) (fun to c ⟨j, e', c0, a1, a2, a3, a4, a5⟩ => by
              rcases (by omega : j < i' ∨ j = i') with z | rfl
              · exact ⟨c, ⟨j, e', c0, z, a2, a3, a4, a5⟩, Nat.le_refl _⟩
              · rw [he] at a2; cases a2; exact absurd a4 (hn c0 a3))
            by_cases hrd : e.2.1 = [x]
            · rw [decide_eq_true hrd]
              obtain ⟨oc, hoc⟩ : ∃ oc, row1[e.1]? = some oc := ⟨_, List.getElem?_eq_getElem (by rw [hc1]; exact hlt.1)⟩
              obtain ⟨oo1, hoo⟩ : ∃ oo1, aft[e.2.2.2]? = some oo1 := ⟨_, List.getElem?_eq_getElem (by rw [hl3]; exact hlt.2)⟩
              have hp2 : e.2.2.2 < (aft.map oV).length := by rw [List.length_map, hl3]; exact hlt.2
              refine iteT ⟨_, rfl, _, rfl, p, _, _, _, rfl, rfl, SqL.of hpv, atI_nat (at_oV hoc), rfl, _, rfl, ?_⟩
              cases oc with
              | none => exact iteF (iteF ⟨aft, _, _, _, _, rfl, L3, skip fun c0 _ z => by rw [hoc] at z; cases z⟩)
              | some c =>
                refine iteT ?_
                have cong : ∀ aft' : CRow, LRow sts.length (fun to' c' => BrI l row1 x i' to' c' ∨ (to' = e.2.2.2 ∧ c' = c + e.2.2.1)) aft' → LRow sts.length (BrI l row1 x (i' + 1)) aft' := fun aft' hh => hh.imp (fun to' c' z => by
                  rcases z with ⟨j, e', c0, a1, a2⟩ | ⟨rfl, rfl⟩
                  · exact ⟨j, e', c0, by omega, a2⟩
                  · exact ⟨i', e, c, Nat.lt_succ_self _, he, hrd, hoc, rfl, rfl⟩) (fun to' c' ⟨j, e', c0, a1, a2, a3, a4, a5, a6⟩ => by
                  rcases (by omega : j < i' ∨ j = i') with z | rfl
                  · exact ⟨c', .inl ⟨j, e', c0, z, a2, a3, a4, a5, a6⟩, Nat.le_refl _⟩
                  · rw [he] at a2; cases a2
                    rw [hoc] at a4; cases a4
                    exact ⟨c', .inr ⟨a5, a6⟩, Nat.le_refl _⟩)
                refine ⟨_, rfl, _, rfl, p4, _, _, _, rfl, rfl, SqL.of L3.pv, atI_nat (at_oV hoo), rfl, _, rfl, ?_⟩
                cases oo1 with
                | none =>
                  refine iteT (iteT ?_)
                  refine ⟨_, rfl, _, rfl, p, _, _, _, rfl, rfl, SqL.of hpv, atI_nat (at_oV hoc), _, rfl, _, _, rfl, rfl, _, rfl, _, rfl, p4, _, _, _, rfl, rfl, L3.pv, ixn hp2, ?_⟩
                  exact ⟨_, _, _, _, _, rfl, L3.set _ _, cong _ (hR3.put hoo bet_none)⟩
                | some e6 =>
                  refine iteF ⟨_, rfl, _, rfl, p4, _, _, _, rfl, rfl, SqL.of L3.pv, atI_nat (at_oV hoo), _, rfl, _, rfl, p, _, _, _, rfl, rfl, SqL.of hpv, atI_nat (at_oV hoc), _, rfl, _, _, rfl, rfl, _, _, rfl, rfl, _, rfl, ?_⟩
                  by_cases hlt2 : c + e.2.2.1 < e6
                  · rw [decide_eq_true (show ((c : Int) + (e.2.2.1 : Int) < (e6 : Int)) by omega)]
                    refine iteT ?_
                    refine ⟨_, rfl, _, rfl, p, _, _, _, rfl, rfl, SqL.of hpv, atI_nat (at_oV hoc), _, rfl, _, _, rfl, rfl, _, rfl, _, rfl, p4, _, _, _, rfl, rfl, L3.pv, ixn hp2, ?_⟩
                    exact ⟨_, _, _, _, _, rfl, L3.set _ _, cong _ (hR3.put hoo (bet_some.mpr hlt2))⟩
                  · rw [decide_eq_false (show ¬ ((c : Int) + (e.2.2.1 : Int) < (e6 : Int)) by omega)]
                    exact iteF ⟨aft, _, _, _, _, rfl, L3, cong _ (hR3.keep hoo fun z => hlt2 (bet_some.mp z))⟩
            · rw [decide_eq_false hrd]
              exact iteF (iteF ⟨aft, _, _, _, _, rfl, L3, skip fun c0 z => absurd z hrd⟩)
          · rintro σ' H3 ⟨aft, o7, o8, o9, o10, rfl, L3, hR3⟩
            rw [hoxl] at hR3
            exact ⟨_, rfl, p4, ps4, rows4, aft, _, _, _, _, _, _, _, rfl, L3, hrl4, hrows4, bri_beg mo hx hcl hR3, hrb4, fun h c z => by
              obtain ⟨j, e, c0, a1, a2, a3, a4, a5, a6⟩ := hR3.snd h c z
              have h1 := hcap _ _ a4
              have h2 := hco e (List.mem_of_getElem? a2)
              omega⟩
        · rw [decide_eq_false (by omega)]
          refine iteF ⟨_, rfl, p4, ps4, rows4, _, _, _, _, _, _, _, _, rfl, L4, hrl4, hrows4, ?_, hrb4, fun h c z => absurd ((LRow.nothing sts.length).snd h c z) id⟩
          refine (LRow.nothing sts.length).imp (fun _ _ z => z.elim) (fun to c ⟨x, h1, _⟩ => ?_)
          have := (List.getElem?_eq_some_iff.mp h1).1
          omega
    · rintro σ' H' ⟨p, ps, rows, row, o5, o6, o7, o8, o9, o10, o11, rfl, L, hrl, hrows, hA, hrb, _⟩
      exact ⟨_, rfl, kk R ps rows H' L.fe L.r0 L.nw L.rv L.len hrl L.at_ hrows hrb⟩
end
end Fm
/-! what a floor is, by the law -/
namespace Fm
open PySem L2
theorem rCell.mo {M : List Addr} {H H' : Hp} {v : V} {c : Option Int} (h : rCell H v c) (f : Fx M H H') : rCell H' v c := by
  cases h with
  | int i => exact .int i
  | non => exact .non
  | bl b => exact .bl b
  | str s => exact .str s
  | tup h => exact .tup (f.tups _ _ h)
def MvS (l : List Mv5) (j : Nat) (r : List Int) : Prop := ∀ (j' : Nat) (e : Mv5), j' < j → l[j']? = some e → e.2.1 = [] → ∀ x y : Int, r[e.1]? = some x → r[e.2.2.2]? = some y → y ≤ x + e.2.2.1
def MvR (l : List Mv5) (t : List Nat) (i j : Nat) (FF : List (List Int)) : Prop := ∀ (j' : Nat) (e : Mv5) (a : Nat), j' < j → l[j']? = some e → t[i]? = some a → e.2.1 = [a] → ∀ (r r2 : List Int) (x y : Int), FF[i]? = some r → FF[i + 1]? = some r2 → r[e.1]? = some x → r2[e.2.2.2]? = some y → y ≤ x + e.2.2.1
theorem MvsOk.sil {b : Book} {m : Mach} {sts : List Stg} {l : List Mv5} (mo : MvsOk b m sts l) {r : List Int} (h : MvS l l.length r) : ∀ (h0 to c : Nat) (x y : Int), Told b m sts none h0 to c → r[h0]? = some x → r[to]? = some y → y ≤ x + c := fun h0 to c x y ht hx hy => by
  obtain ⟨j, hj⟩ := List.mem_iff_getElem?.mp (mo.all none h0 to c (told_lt ht).1 ht)
  exact h j _ (List.getElem?_eq_some_iff.mp hj).1 hj rfl x y hx hy
theorem MvsOk.rd {b : Book} {m : Mach} {sts : List Stg} {l : List Mv5} (mo : MvsOk b m sts l) {t : List Nat} {i a : Nat} {FF : List (List Int)} (h : MvR l t i l.length FF) (ha : t[i]? = some a) : ∀ (h0 to c : Nat) (r r2 : List Int) (x y : Int), FF[i]? = some r → FF[i + 1]? = some r2 → Told b m sts (some a) h0 to c → r[h0]? = some x → r2[to]? = some y → y ≤ x + c := fun h0 to c r r2 x y hr hr2 ht hx hy => by
  obtain ⟨j, hj⟩ := List.mem_iff_getElem?.mp (mo.all (some a) h0 to c (told_lt ht).1 ht)
  exact h j _ a (List.getElem?_eq_some_iff.mp hj).1 hj ha rfl r r2 x y hr hr2 hx hy
def spLIsFl : Sp := fun vs H Q _ => ∃ (b : Book) (m : Mach) (sts : List Stg) (l : List Mv5) (t : List Nat) (W S F : Addr) (svs : List V) (v2 v5 : V) (num : Int) (th : Thing), vs = [.ref W, v2, .str ⟨t.toArray⟩, .int num, v5] ∧ H W = some (.lst [.ref S, .ref F]) ∧ H S = some (.lst svs) ∧ Al (rP rN rS) H svs sts ∧ rL rMv5 H (.ref F) l ∧ MvsOk b m sts l ∧ SOk b m sts ∧ sts[0]? = some (0, []) ∧ sts.length ≤ 4000 ∧
  rT rN H v2 m.2.1 ∧ t.length ≤ 1000 ∧ rThing H v5 th ∧ ∀ (bb : Bool) (H' : Hp), Fe H H' → (bb = true ↔ rowsOk sts.length t.length th = true ∧ IsFl b m sts t num (intsOf th)) → Q (.bl bb) H'
section
variable {P : Program} {w : World} {K : PySem.W.Frag} {g : Str → Option Value} {base : Heap}
theorem ok_law_integer (T : Txt K g) : FnOk P w K g base CX0 1 T.d_law_integer.f T.d_law_integer.fd P_law_integer spWhole := by
  refine T.d_law_integer.F.ok sc_law_integer (fun vs H Q E h => ?_) (fun cdv A outer s H vs Q E hr h => ?_)
  · obtain ⟨_, _, rfl, _⟩ := h
    rfl
  · obtain ⟨v, c, rfl, hv, kk⟩ := h
    have hu := hu_of hr
    refine ⟨_, (pss_one (ps_ret (pe_and (pe_callB call_isi (by rfl) T.z_isinstance (by decide +kernel) (pa_cons (pv 0) (pa_cons (pe_bltn (v := .ty "int") (by rfl) T.z_int (by decide +kernel) rfl) pa_nil))) (pe_one (pe_not (pe_callB call_isi (by rfl) T.z_isinstance (by decide +kernel) (pa_cons (pv 0) (pa_cons (pe_bltn (v := .ty "bool") (by rfl) T.z_bool (by decide +kernel) rfl) pa_nil)))))))), ?_⟩
    have ii : PySem.W.kitOne K (.type "int") (.type "int") = some true := rfl
    have ib : PySem.W.kitOne K (.type "int") (.type "bool") = some false := rfl
    have bi : PySem.W.kitOne K (.type "bool") (.type "int") = some true := rfl
    have bb : PySem.W.kitOne K (.type "bool") (.type "bool") = some true := rfl
    have ni : PySem.W.kitOne K (.type "NoneType") (.type "int") = some false := rfl
    have si : PySem.W.kitOne K (.type "str") (.type "int") = some false := rfl
    have ti : PySem.W.kitOne K (.type "tuple") (.type "int") = some false := rfl
    cases hv with
    | int i => exact ⟨_, rfl, _, _, _, _, _, rfl, .ty "int", .base (TyOf.int i), ii, _, rfl, iteT ⟨_, rfl, _, _, _, _, _, rfl, .ty "bool", .base (TyOf.int i), ib, _, rfl, kk⟩⟩
    | non => exact ⟨_, rfl, _, _, _, _, _, rfl, .ty "int", .base TyOf.non, ni, _, rfl, iteF kk⟩
    | bl b => exact ⟨_, rfl, _, _, _, _, _, rfl, .ty "int", .base (TyOf.bl b), bi, _, rfl, iteT ⟨_, rfl, _, _, _, _, _, rfl, .ty "bool", .base (TyOf.bl b), bb, _, rfl, kk⟩⟩
    | str x => exact ⟨_, rfl, _, _, _, _, _, rfl, .ty "int", .base (TyOf.str x), si, _, rfl, iteF kk⟩
    | tup h => exact ⟨_, rfl, _, _, _, _, _, rfl, .ty "int", .base (TyOf.tup h), ti, _, rfl, iteF kk⟩
theorem ok_law_is_floor (T : Txt K g) : FnOk P w K g base CX0 2 T.d_law_is_floor.f T.d_law_is_floor.fd P_law_is_floor spLIsFl := by
  refine T.d_law_is_floor.F.ok sc_law_is_floor (fun vs H Q E h => ?_) (fun cdv A outer s H vs Q E hr h => ?_)
  · obtain ⟨_, _, _, _, _, _, _, _, _, _, _, _, _, rfl, _⟩ := h
    rfl
  · obtain ⟨b, m, sts, l, t, W, S, F, svs, v2, v5, num, th, rfl, hW, hS, alS, hF, mo, so, h0, hst4, hen, htl, hth, kk⟩ := h
    have hu := hu_of hr
    refine ⟨_, (pss_cons (ps_asg (pv 0) (kg_unl (K := K) 2 rfl rfl (pgs_cons (pg_name (i := 5) sc_law_is_floor.nd rfl (by first | exact Or.inl rfl | exact Or.inr rfl)) (pgs_cons (pg_name (i := 6) sc_law_is_floor.nd rfl (by first | exact Or.inl rfl | exact Or.inr rfl)) pgs_nil))))
    (pss_cons (ps_if (PW.pt (pw_or (pt_not (pt_val (pe_callB call_isi (by rfl) T.z_isinstance (by decide +kernel) (pa_cons (pv 4) (pa_cons (pe_bltn (v := .ty "tuple") (by rfl) T.z_tuple (by decide +kernel) rfl) pa_nil))))) (pw_or1 (pt_cmpR op_ne (pe_callB (kc_len (K := K) rfl) (by rfl) T.z_len PySem.boot_len (pa_cons (pv 4) pa_nil)) (pe_op op_add (pe_callB kc_lenS (by rfl) T.z_len PySem.boot_len (pa_cons (pv 2) pa_nil)) pe_int) (nomark _)))))
      (pss_one (ps_ret pe_bl))
      pss_nil)
    (pss_cons (ps_for PassesOwn.never rfl (ki_tup (K := K) rfl (pv 4)) (pg_name (i := 7) sc_law_is_floor.nd rfl (by first | exact Or.inl rfl | exact Or.inr rfl))
      (pss_cons (ps_if (PW.pt (pw_or (pt_not (pt_val (pe_callB call_isi (by rfl) T.z_isinstance (by decide +kernel) (pa_cons (pv 7) (pa_cons (pe_bltn (v := .ty "tuple") (by rfl) T.z_tuple (by decide +kernel) rfl) pa_nil))))) (pw_or1 (pt_cmpR op_ne (pe_callB (kc_len (K := K) rfl) (by rfl) T.z_len PySem.boot_len (pa_cons (pv 7) pa_nil)) (pe_callB (kc_len (K := K) rfl) (by rfl) T.z_len PySem.boot_len (pa_cons (pv 5) pa_nil)) (nomark _)))))
        (pss_one (ps_ret pe_bl))
        pss_nil)
      (pss_one (ps_for PassesOwn.never rfl (ki_tup (K := K) rfl (pv 7)) (pg_name (i := 8) sc_law_is_floor.nd rfl (by first | exact Or.inl rfl | exact Or.inr rfl))
        (pss_one (ps_if (pt_not (pt_val (pe_call (ok_law_integer T) (hr.mono (by decide)) rfl T.d_law_integer.mg T.d_law_integer.kp T.d_law_integer.b .nil pass0 (pa_cons (pv 8) pa_nil))))
          (pss_one (ps_ret pe_bl))
          pss_nil))))))
    (pss_cons (ps_if (pt_cmpR op_gt (pe_ix (kx_tup (K := K) rfl) (pe_ix (kx_tup (K := K) rfl) (pv 4) pe_int (fun _ _ => rfl)) pe_int (fun _ _ => rfl)) pe_int (nomark _))
      (pss_one (ps_ret pe_bl))
      pss_nil)
    (pss_cons (ps_for PassesOwn.never rfl (pi_range1 rfl T.z_range (pa_cons (pe_op op_add (pe_callB kc_lenS (by rfl) T.z_len PySem.boot_len (pa_cons (pv 2) pa_nil)) pe_int) pa_nil)) (pg_name (i := 9) sc_law_is_floor.nd rfl (by first | exact Or.inl rfl | exact Or.inr rfl))
      (pss_one (ps_for PassesOwn.never rfl (ki_list (K := K) rfl (pv 6)) (kg_tup (K := K) 4 rfl rfl (pgs_cons (pg_name (i := 10) sc_law_is_floor.nd rfl (by first | exact Or.inl rfl | exact Or.inr rfl)) (pgs_cons (pg_name (i := 11) sc_law_is_floor.nd rfl (by first | exact Or.inl rfl | exact Or.inr rfl)) (pgs_cons (pg_name (i := 12) sc_law_is_floor.nd rfl (by first | exact Or.inl rfl | exact Or.inr rfl)) (pgs_cons (pg_name (i := 13) sc_law_is_floor.nd rfl (by first | exact Or.inl rfl | exact Or.inr rfl)) pgs_nil)))))
        (pss_cons (ps_if (PW.pt (pw_and (pt_cmpR op_eq (pv 11) pe_str (nomark _)) (pw_and1 (pt_cmpR op_gt (pe_ix (kx_tup (K := K) rfl) (pe_ix (kx_tup (K := K) rfl) (pv 4) (pv 9) (fun _ _ => rfl)) (pv 13) (fun _ _ => rfl)) (pe_op op_add (pe_ix (kx_tup (K := K) rfl) (pe_ix (kx_tup (K := K) rfl) (pv 4) (pv 9) (fun _ _ => rfl)) (pv 10) (fun _ _ => rfl)) (pv 12)) (nomark _)))))
          (pss_one (ps_ret pe_bl))
          pss_nil)
        (pss_one (ps_if (PW.pt (pw_and (pt_cmpR op_lt (pv 9) (pe_callB kc_lenS (by rfl) T.z_len PySem.boot_len (pa_cons (pv 2) pa_nil)) (nomark _)) (pw_and (pt_cmpR op_eq (pv 11) (pe_ix ix_str (pv 2) (pv 9) (fun _ _ => rfl)) (nomark _)) (pw_and1 (pt_cmpR op_gt (pe_ix (kx_tup (K := K) rfl) (pe_ix (kx_tup (K := K) rfl) (pv 4) (pe_op op_add (pv 9) pe_int) (fun _ _ => rfl)) (pv 13) (fun _ _ => rfl)) (pe_op op_add (pe_ix (kx_tup (K := K) rfl) (pe_ix (kx_tup (K := K) rfl) (pv 4) (pv 9) (fun _ _ => rfl)) (pv 10) (fun _ _ => rfl)) (pv 12)) (nomark _))))))
          (pss_one (ps_ret pe_bl))
          pss_nil))))))
    (pss_cons (ps_for PassesOwn.never rfl (pi_range1 rfl T.z_range (pa_cons (pe_callB (kc_len (K := K) rfl) (by rfl) T.z_len PySem.boot_len (pa_cons (pv 5) pa_nil)) pa_nil)) (pg_name (i := 14) sc_law_is_floor.nd rfl (by first | exact Or.inl rfl | exact Or.inr rfl))
      (pss_one (ps_if (PW.pt (pw_and (pt_cmpR op_eq (pe_ix (kx_tup (K := K) rfl) (pe_ix (kx_list (K := K) rfl) (pv 5) (pv 14) (fun _ _ => rfl)) pe_int (fun _ _ => rfl)) pe_str (nomark _)) (pw_and (pt_cmpR (ko_in (K := K) rfl) (pe_ix (kx_tup (K := K) rfl) (pe_ix (kx_list (K := K) rfl) (pv 5) (pv 14) (fun _ _ => rfl)) pe_int (fun _ _ => rfl)) (pv 1) (by rfl)) (pw_and1 (pt_cmpR op_lt (pe_ix (kx_tup (K := K) rfl) (pe_ix (kx_tup (K := K) rfl) (pv 4) (pe_un un_neg pe_int) (fun _ _ => rfl)) (pv 14) (fun _ _ => rfl)) (pv 3) (nomark _))))))
        (pss_one (ps_ret pe_bl))
        pss_nil)))
    (pss_one (ps_ret pe_bl)))))))), ?_⟩
    have tt : PySem.W.kitOne K (.type "tuple") (.type "tuple") = some true := rfl
    have lt : PySem.W.kitOne K (.type "list") (.type "tuple") = some false := rfl
    have nt : PySem.W.kitOne K (.type "NoneType") (.type "tuple") = some false := rfl
    obtain ⟨ea, exs, rfl, hea, heal⟩ := id hen
    obtain ⟨fa, fxs, rf, hfa, hfal⟩ := id hF
    cases rf
    have hsl := alS.len
    refine ⟨_, rfl, W, _, rfl, SqL.of hW, rfl, _, _, rfl, _, _, rfl, rfl, ?_⟩
    have bad : ∀ H', Fe H H' → rowsOk sts.length t.length th = false → Q (.bl false) H' := fun H' e hb => kk false H' e ⟨fun z => (nomatch z), fun z => by rw [hb] at z; exact nomatch z.1⟩
    cases hth with
    | non => exact ⟨_, rfl, _, _, _, _, _, rfl, .ty "tuple", .base TyOf.non, nt, _, rfl, iteT (iteT (bad H (Fx.refl _ _) rfl))⟩
    | lst h => exact ⟨_, rfl, _, _, _, _, _, rfl, .ty "tuple", .base (TyOf.lst h), lt, _, rfl, iteT (iteT (bad H (Fx.refl _ _) rfl))⟩
    | @tup a xs tl h al =>
      have hl := al.len
      refine ⟨_, rfl, _, _, _, _, _, rfl, .ty "tuple", .base (TyOf.tup h), tt, _, rfl, iteF ?_⟩
      refine ⟨_, rfl, a, _, rfl, .inr (SqT.of h), _, rfl, _, rfl, by rw [slen, sizeLine_eq]; omega, _, _, rfl, rfl, rfl, _, rfl, ?_⟩
      have en : (!decide (V.int ((xs.length : Nat) : Int) = V.int ((((⟨t.toArray⟩ : Str).length : Nat) : Int) + 1))) = !decide (tl.length = t.length + 1) := by
        congr 1
        rw [hl, slen]
        refine Bool.eq_iff_iff.mpr ?_
        rw [decide_eq_true_eq, decide_eq_true_eq]
        constructor
        · intro z; injection z with z; omega
        · intro z; rw [z]; rfl
      rw [en]
      by_cases q : tl.length = t.length + 1
      · rw [decide_eq_true q]
        refine iteF ?_
        refine ⟨_, rfl, a, rfl, ⟨_, SqT.of h⟩, for_tup (xs := xs) (fun i σ' H' => ∃ o7 o8 : Option V, σ' = [some (.ref W), some (.ref ea), some (.str ⟨t.toArray⟩), some (.int num), some (.ref a), some (.ref S), some (.ref F), o7, o8, none, none, none, none, none, none] ∧ Fe H H' ∧ (tl.take i).all (rowOk sts.length) = true) ⟨_, _, rfl, Fx.refl _ _, rfl⟩ (fun i σ' H' _ ⟨_, _, _, e, _⟩ => SqT.of (e.k h)) ?_ ?_⟩
        · rintro i x σ' H' hx ⟨o7, o8, rfl, e, hall⟩
          obtain ⟨r, hr, hrr⟩ := al.get hx
          have hrm := List.mem_of_getElem? hr
          have bad2 : rowOk sts.length r = false → rowsOk sts.length t.length (some tl) = false := fun hb => by
            show (decide (tl.length = t.length + 1) && tl.all (rowOk sts.length)) = _
            rw [decide_eq_true q, Bool.true_and]
            exact List.all_eq_false.mpr ⟨r, hrm, by rw [hb]; decide⟩
          have good : rowOk sts.length r = true → (tl.take (i + 1)).all (rowOk sts.length) = true := fun hb => by
            rw [List.take_add_one, hr, List.all_append, hall, Bool.true_and]
            show (rowOk sts.length r && true) = true
            rw [hb]; rfl
          cases hrr with
          | lst h2 => exact ⟨_, rfl, _, _, _, _, _, rfl, .ty "tuple", .base (TyOf.lst (e.k h2)), lt, _, rfl, iteT (iteT (bad H' e (bad2 rfl)))⟩
          | @tup a2 xs2 l2 h2 al2 =>
            have hl2 := al2.len
            refine ⟨_, rfl, _, _, _, _, _, rfl, .ty "tuple", .base (TyOf.tup (e.k h2)), tt, _, rfl, iteF ?_⟩
            refine ⟨_, rfl, a2, _, rfl, .inr (SqT.of (e.k h2)), _, rfl, S, _, rfl, .inl (SqL.of (e.k hS)), rfl, _, rfl, ?_⟩
            have en2 : (!decide (V.int ((xs2.length : Nat) : Int) = V.int ((svs.length : Nat) : Int))) = !decide (l2.length = sts.length) := by
              congr 1
              rw [hl2, hsl]
              refine Bool.eq_iff_iff.mpr ?_
              rw [decide_eq_true_eq, decide_eq_true_eq]
              constructor
              · intro z; injection z with z; omega
              · intro z; rw [z]
            rw [en2]
            by_cases q2 : l2.length = sts.length
            · rw [decide_eq_true q2]
              refine iteF ?_
              refine ⟨_, rfl, a2, rfl, ⟨_, SqT.of (e.k h2)⟩, for_tup (xs := xs2) (fun j σ' H' => ∃ o8 : Option V, σ' = [some (.ref W), some (.ref ea), some (.str ⟨t.toArray⟩), some (.int num), some (.ref a), some (.ref S), some (.ref F), some (.ref a2), o8, none, none, none, none, none, none] ∧ Fe H H' ∧ (l2.take j).all (·.isSome) = true) ⟨_, rfl, e, rfl⟩ (fun j σ' H' _ ⟨_, _, e, _⟩ => SqT.of (e.k h2)) ?_ ?_⟩
              · clear e
                rintro j y σ' H4 hy ⟨o8, rfl, e, hall2⟩
                obtain ⟨c, hc, hcr⟩ := al2.get hy
                have hcm := List.mem_of_getElem? hc
                refine ⟨_, rfl, y, c, rfl, hcr.fe e, _, rfl, ?_⟩
                cases c with
                | none =>
                  refine iteT (bad H4 e (bad2 ?_))
                  show (decide (l2.length = sts.length) && l2.all (·.isSome)) = false
                  rw [decide_eq_true q2, Bool.true_and]
                  exact List.all_eq_false.mpr ⟨none, hcm, by decide⟩
                | some i =>
                  refine iteF ⟨_, rfl, e, ?_⟩
                  rw [List.take_add_one, hc, List.all_append, hall2]; rfl
              · rintro σ' H4 ⟨o8, rfl, e, hall2⟩
                rw [hl2, List.take_length] at hall2
                refine ⟨_, _, rfl, e, good ?_⟩
                show (decide (l2.length = sts.length) && l2.all (·.isSome)) = true
                rw [decide_eq_true q2, hall2]; rfl
            · rw [decide_eq_false q2]
              exact iteT (bad H' e (bad2 (by show (decide (l2.length = sts.length) && _) = false; rw [decide_eq_false q2]; rfl)))
        · rintro σ' H1 ⟨o7, o8, rfl, e1, hall⟩
          rw [hl, List.take_length] at hall
          have hok : rowsOk sts.length t.length (some tl) = true := by
            show (decide (tl.length = t.length + 1) && tl.all (rowOk sts.length)) = _
            rw [decide_eq_true q, hall]; rfl
          have hth2 : rThing H (.ref a) (some tl) := .tup h al
          obtain ⟨tA, txs, eta, hta, htal, hFl, hFn⟩ := thing_ints hth2 hok
          cases eta
          have hxsl := htal.len
          have kk2 : ∀ (bb : Bool) (H' : Hp), Fe H H' → (bb = true ↔ IsFl b m sts t num (intsOf (some tl))) → Q (.bl bb) H' := fun bb H' e h => kk bb H' e (h.trans ⟨fun z => ⟨hok, z⟩, fun z => z.2⟩)
          generalize hFF : intsOf (some tl) = FF at *
          clear bad kk h al hl hth2 en
          have hst : ∀ {i : Nat} {r : List Int}, FF[i]? = some r → r.length = sts.length := fun h => hFn _ (List.mem_of_getElem? h)
          have hpos : 0 < sts.length := (List.getElem?_eq_some_iff.mp h0).1
          obtain ⟨f0, hF0⟩ : ∃ f0, FF[0]? = some f0 := ⟨_, List.getElem?_eq_getElem (by omega)⟩
          obtain ⟨v0, hv0, ⟨r0, rfl, hr0⟩⟩ := htal.at hF0
          obtain ⟨x0, hx0⟩ : ∃ x0, f0[0]? = some x0 := ⟨_, List.getElem?_eq_getElem (by rw [hst hF0]; exact hpos)⟩
          refine ⟨_, rfl, a, _, _, _, rfl, rfl, SqT.of (e1.k hta), atI_nat (j := 0) hv0, r0, _, _, _, rfl, rfl, SqT.of (e1.k hr0), atI_nat (j := 0) (by rw [List.getElem?_map, hx0]; rfl), _, _, rfl, rfl, _, rfl, ?_⟩
          by_cases h00 : 0 < x0
          · rw [decide_eq_true h00]
            exact iteT (kk2 false H1 e1 ⟨fun z => (nomatch z), fun z => by have := z.low f0 0 x0 hF0 h0 hx0; omega⟩)
          · rw [decide_eq_false h00]
            refine iteF ?_
            refine ⟨_, rfl, _, rfl, by rw [slen, sizeLine_eq]; omega, _, _, rfl, rfl, _, rfl, by rw [slen]; omega, by rw [slen]; omega, ?_⟩
            have hcn : (((⟨t.toArray⟩ : Str).length : Int) + 1).toNat = t.length + 1 := by rw [slen]; omega
            rw [hcn]
            refine for_range (lo := 0) (n := t.length + 1) (fun i σ' H' => ∃ o9 o10 o11 o12 o13 : Option V, σ' = [some (.ref W), some (.ref ea), some (.str ⟨t.toArray⟩), some (.int num), some (.ref a), some (.ref S), some (.ref F), o7, o8, o9, o10, o11, o12, o13, none] ∧ Fe H H' ∧
              (∀ (i' : Nat) (r : List Int), i' < i → FF[i']? = some r → MvS l l.length r) ∧ (∀ i' : Nat, i' < i → MvR l t i' l.length FF)) ⟨_, _, _, _, _, rfl, e1, fun _ _ z => by omega, fun _ z => by omega⟩ ?_ ?_
            · rintro i σ' H2 hi ⟨o9, o10, o11, o12, o13, rfl, e2, hs, hrd⟩
              rw [show ((0:Int)+(i:Int)) = (i:Int) from Int.zero_add _]
              obtain ⟨r, hr⟩ : ∃ r, FF[i]? = some r := ⟨_, List.getElem?_eq_getElem (by omega)⟩
              obtain ⟨vr, hvr, ⟨ra, rfl, hra⟩⟩ := htal.at hr
              have hrn := hst hr
              refine ⟨_, rfl, F, rfl, ⟨_, SqL.of (e2.k hfa)⟩, for_lst (xs := fxs) (fun j σ' H' => ∃ o10 o11 o12 o13 : Option V, σ' = [some (.ref W), some (.ref ea), some (.str ⟨t.toArray⟩), some (.int num), some (.ref a), some (.ref S), some (.ref F), o7, o8, some (.int (i : Int)), o10, o11, o12, o13, none] ∧ Fe H H' ∧ MvS l j r ∧ MvR l t i j FF) ⟨_, _, _, _, rfl, e2, fun _ _ z => by omega, fun _ _ _ z => by omega⟩ (fun j σ' H' _ ⟨_, _, _, _, _, e, _⟩ => e.k hfa) ?_ ?_⟩
              · rintro j xv σ' H4 hx ⟨o10, o11, o12, o13, rfl, e4, hms, hmr⟩
                obtain ⟨e, he, her⟩ := hfal.get hx
                have hem := List.mem_of_getElem? he
                obtain ⟨o, ho1, ho2⟩ := mo.ok e hem
                have hlt := told_lt ho2
                obtain ⟨u, x1, x2, x3, x4, rfl, hu1, rfl, rfl, rfl, rfl⟩ := id (Me.go her e4)
                obtain ⟨fx, hfx⟩ : ∃ x, r[e.1]? = some x := ⟨_, List.getElem?_eq_getElem (by rw [hrn]; exact hlt.1)⟩
                obtain ⟨gy, hgy⟩ : ∃ y, r[e.2.2.2]? = some y := ⟨_, List.getElem?_eq_getElem (by rw [hrn]; exact hlt.2)⟩
                refine ⟨u, _, rfl, SqT.of hu1, rfl, _, _, rfl, _, _, rfl, _, _, rfl, _, _, rfl, rfl, ?_⟩
                refine ⟨_, rfl, rfl, _, rfl, ?_⟩
                rw [dec_str_nil]
                by_cases hrd0 : e.2.1 = []
                · rw [decide_eq_true hrd0]
                  have hS0 : Told b m sts none e.1 e.2.2.2 e.2.2.1 := by
                    rw [hrd0] at ho1
                    cases o with
                    | none => exact ho2
                    | some y => cases ho1
                  refine iteT ⟨_, rfl, _, rfl, a, _, _, _, rfl, rfl, SqT.of (e4.k hta), atI_nat hvr, _, rfl, ra, _, _, _, rfl, rfl, SqT.of (e4.k hra), atI_nat (by rw [List.getElem?_map, hgy]; rfl), _, rfl, _, rfl, a, _, _, _, rfl, rfl, SqT.of (e4.k hta), atI_nat hvr, _, rfl, ra, _, _, _, rfl, rfl, SqT.of (e4.k hra), atI_nat (by rw [List.getElem?_map, hfx]; rfl), _, rfl, _, _, rfl, rfl, _, _, rfl, rfl, _, rfl, ?_⟩
                  by_cases hb : fx + (e.2.2.1 : Int) < gy
                  · rw [decide_eq_true hb]
                    refine iteT (kk2 false H4 e4 ⟨fun z => (nomatch z), fun z => ?_⟩)
                    have := z.sil i e.1 e.2.2.2 e.2.2.1 r fx gy hr hS0 hfx hgy
                    omega
                  · rw [decide_eq_false hb]
                    refine iteF ?_
                    have hsil : MvS l (j + 1) r := fun j' e' hj' he' hr' x y hx' hy' => by
                      rcases (by omega : j' < j ∨ j' = j) with z | rfl
                      · exact hms j' e' z he' hr' x y hx' hy'
                      · rw [he] at he'; cases he'
                        rw [hfx] at hx'; cases hx'
                        rw [hgy] at hy'; cases hy'
                        omega
                    refine ⟨_, rfl, _, rfl, _, rfl, by rw [slen, sizeLine_eq]; omega, _, _, rfl, rfl, _, rfl, ?_⟩
                    rw [slen]
                    by_cases hit : i < t.length
                    · rw [decide_eq_true (by omega)]
                      obtain ⟨x, hxt⟩ : ∃ x, t[i]? = some x := ⟨_, List.getElem?_eq_getElem hit⟩
                      refine iteT ⟨_, rfl, _, rfl, _, rfl, ⟨t.toArray⟩, _, x, rfl, rfl, by rw [slen, sizeLine_eq]; omega, atI_nat hxt, rfl, _, rfl, ?_⟩
                      have ed : decide (V.str ⟨e.2.1.toArray⟩ = V.str ⟨#[x]⟩) = decide (e.2.1 = [x]) := dec_strs e.2.1 [x]
                      rw [ed]
                      by_cases hrx : e.2.1 = [x]
                      · rw [decide_eq_true hrx]
                        obtain ⟨r2, hr2⟩ : ∃ r2, FF[i + 1]? = some r2 := ⟨_, List.getElem?_eq_getElem (by omega)⟩
                        obtain ⟨v2', hv2', ⟨ra2, rfl, hra2⟩⟩ := htal.at hr2
                        obtain ⟨gy2, hgy2⟩ : ∃ y, r2[e.2.2.2]? = some y := ⟨_, List.getElem?_eq_getElem (by rw [hst hr2]; exact hlt.2)⟩
                        have hTx : Told b m sts (some x) e.1 e.2.2.2 e.2.2.1 := by
                          rw [hrx] at ho1
                          cases o with
                          | none => cases ho1
                          | some y => injection ho1 with ho1 _; rw [ho1]; exact ho2
                        refine iteT ⟨_, rfl, _, rfl, _, _, rfl, rfl, a, _, _, _, rfl, rfl, SqT.of (e4.k hta), atI_nat (j := i + 1) hv2', _, rfl, ra2, _, _, _, rfl, rfl, SqT.of (e4.k hra2), atI_nat (by rw [List.getElem?_map, hgy2]; rfl), _, rfl, _, rfl, a, _, _, _, rfl, rfl, SqT.of (e4.k hta), atI_nat hvr, _, rfl, ra, _, _, _, rfl, rfl, SqT.of (e4.k hra), atI_nat (by rw [List.getElem?_map, hfx]; rfl), _, rfl, _, _, rfl, rfl, _, _, rfl, rfl, _, rfl, ?_⟩
                        by_cases hb2 : fx + (e.2.2.1 : Int) < gy2
                        · rw [decide_eq_true hb2]
                          refine iteT (kk2 false H4 e4 ⟨fun z => (nomatch z), fun z => ?_⟩)
                          have := z.rd i e.1 e.2.2.2 e.2.2.1 x r r2 fx gy2 hxt hr hr2 hTx hfx hgy2
                          omega
                        · rw [decide_eq_false hb2]
                          refine iteF ⟨_, _, _, _, rfl, e4, hsil, fun j' e' a hj' he' ha' hr' r' r2' x' y' g1 g2 g3 g4 => ?_⟩
                          rcases (by omega : j' < j ∨ j' = j) with z | rfl
                          · exact hmr j' e' a z he' ha' hr' r' r2' x' y' g1 g2 g3 g4
                          · rw [he] at he'; cases he'
                            rw [hr] at g1; cases g1
                            rw [hr2] at g2; cases g2
                            rw [hfx] at g3; cases g3
                            rw [hgy2] at g4; cases g4
                            omega
                      · rw [decide_eq_false hrx]
                        refine iteF (iteF ⟨_, _, _, _, rfl, e4, hsil, fun j' e' a hj' he' ha' hr' => ?_⟩)
                        rcases (by omega : j' < j ∨ j' = j) with z | rfl
                        · exact hmr j' e' a z he' ha' hr'
                        · rw [he] at he'; cases he'
                          rw [hxt] at ha'; cases ha'
                          exact absurd hr' hrx
                    · rw [decide_eq_false (by omega)]
                      refine iteF (iteF ⟨_, _, _, _, rfl, e4, hsil, fun j' e' a hj' he' ha' hr' => ?_⟩)
                      have := (List.getElem?_eq_some_iff.mp ha').1
                      omega
                · rw [decide_eq_false hrd0]
                  refine iteF (iteF ?_)
                  have hsil : MvS l (j + 1) r := fun j' e' hj' he' hr' x y hx' hy' => by
                    rcases (by omega : j' < j ∨ j' = j) with z | rfl
                    · exact hms j' e' z he' hr' x y hx' hy'
                    · rw [he] at he'; cases he'
                      exact absurd hr' hrd0
                  refine ⟨_, rfl, _, rfl, _, rfl, by rw [slen, sizeLine_eq]; omega, _, _, rfl, rfl, _, rfl, ?_⟩
                  rw [slen]
                  by_cases hit : i < t.length
                  · rw [decide_eq_true (by omega)]
                    obtain ⟨x, hxt⟩ : ∃ x, t[i]? = some x := ⟨_, List.getElem?_eq_getElem hit⟩
                    refine iteT ⟨_, rfl, _, rfl, _, rfl, ⟨t.toArray⟩, _, x, rfl, rfl, by rw [slen, sizeLine_eq]; omega, atI_nat hxt, rfl, _, rfl, ?_⟩
                    have ed : decide (V.str ⟨e.2.1.toArray⟩ = V.str ⟨#[x]⟩) = decide (e.2.1 = [x]) := dec_strs e.2.1 [x]
                    rw [ed]
                    by_cases hrx : e.2.1 = [x]
                    · rw [decide_eq_true hrx]
                      obtain ⟨r2, hr2⟩ : ∃ r2, FF[i + 1]? = some r2 := ⟨_, List.getElem?_eq_getElem (by omega)⟩
                      obtain ⟨v2', hv2', ⟨ra2, rfl, hra2⟩⟩ := htal.at hr2
                      obtain ⟨gy2, hgy2⟩ : ∃ y, r2[e.2.2.2]? = some y := ⟨_, List.getElem?_eq_getElem (by rw [hst hr2]; exact hlt.2)⟩
                      have hTx : Told b m sts (some x) e.1 e.2.2.2 e.2.2.1 := by
                        rw [hrx] at ho1
                        cases o with
                        | none => cases ho1
                        | some y => injection ho1 with ho1 _; rw [ho1]; exact ho2
                      refine iteT ⟨_, rfl, _, rfl, _, _, rfl, rfl, a, _, _, _, rfl, rfl, SqT.of (e4.k hta), atI_nat (j := i + 1) hv2', _, rfl, ra2, _, _, _, rfl, rfl, SqT.of (e4.k hra2), atI_nat (by rw [List.getElem?_map, hgy2]; rfl), _, rfl, _, rfl, a, _, _, _, rfl, rfl, SqT.of (e4.k hta), atI_nat hvr, _, rfl, ra, _, _, _, rfl, rfl, SqT.of (e4.k hra), atI_nat (by rw [List.getElem?_map, hfx]; rfl), _, rfl, _, _, rfl, rfl, _, _, rfl, rfl, _, rfl, ?_⟩
                      by_cases hb2 : fx + (e.2.2.1 : Int) < gy2
                      · rw [decide_eq_true hb2]
                        refine iteT (kk2 false H4 e4 ⟨fun z => (nomatch z), fun z => ?_⟩)
                        have := z.rd i e.1 e.2.2.2 e.2.2.1 x r r2 fx gy2 hxt hr hr2 hTx hfx hgy2
                        omega
                      · rw [decide_eq_false hb2]
                        refine iteF ⟨_, _, _, _, rfl, e4, hsil, fun j' e' a hj' he' ha' hr' r' r2' x' y' g1 g2 g3 g4 => ?_⟩
                        rcases (by omega : j' < j ∨ j' = j) with z | rfl
                        · exact hmr j' e' a z he' ha' hr' r' r2' x' y' g1 g2 g3 g4
                        · rw [he] at he'; cases he'
                          rw [hr] at g1; cases g1
                          rw [hr2] at g2; cases g2
                          rw [hfx] at g3; cases g3
                          rw [hgy2] at g4; cases g4
                          omega
                    · rw [decide_eq_false hrx]
                      refine iteF (iteF ⟨_, _, _, _, rfl, e4, hsil, fun j' e' a hj' he' ha' hr' => ?_⟩)
                      rcases (by omega : j' < j ∨ j' = j) with z | rfl
                      · exact hmr j' e' a z he' ha' hr'
                      · rw [he] at he'; cases he'
                        rw [hxt] at ha'; cases ha'
                        exact absurd hr' hrx
                  · rw [decide_eq_false (by omega)]
                    refine iteF (iteF ⟨_, _, _, _, rfl, e4, hsil, fun j' e' a hj' he' ha' hr' => ?_⟩)
                    have := (List.getElem?_eq_some_iff.mp ha').1
                    omega
              · rintro σ' H4 ⟨o10, o11, o12, o13, rfl, e4, hms, hmr⟩
                rw [hfal.len] at hms hmr
                refine ⟨_, _, _, _, _, rfl, e4, fun i' r' hi' hr' => ?_, fun i' hi' => ?_⟩
                · rcases (by omega : i' < i ∨ i' = i) with z | rfl
                  · exact hs i' r' z hr'
                  · rw [hr] at hr'; cases hr'; exact hms
                · rcases (by omega : i' < i ∨ i' = i) with z | rfl
                  · exact hrd i' z
                  · exact hmr
            · rintro σ' H2 ⟨o9, o10, o11, o12, o13, rfl, e2, hs, hrd⟩
              obtain ⟨rl, hrl⟩ : ∃ rl, FF[t.length]? = some rl := ⟨_, List.getElem?_eq_getElem (by omega)⟩
              obtain ⟨vl', hvl', ⟨ral, rfl, hral⟩⟩ := htal.at hrl
              have hrln := hst hrl
              have hexn := heal.nats
              refine ⟨_, rfl, S, _, rfl, .inl (SqL.of (e2.k hS)), _, rfl, by rw [hsl]; omega, by rw [hsl]; omega, ?_⟩
              have hcs : ((svs.length : Nat) : Int).toNat = sts.length := by rw [hsl]; omega
              rw [hcs]
              refine for_range (lo := 0) (n := sts.length) (fun i σ' H' => ∃ o14 : Option V, σ' = [some (.ref W), some (.ref ea), some (.str ⟨t.toArray⟩), some (.int num), some (.ref a), some (.ref S), some (.ref F), o7, o8, o9, o10, o11, o12, o13, o14] ∧ Fe H H' ∧ ∀ (h : Nat) (s : Stg) (x : Int), h < i → sts[h]? = some s → EndS m s → rl[h]? = some x → num ≤ x) ⟨_, rfl, e2, fun _ _ _ z => by omega⟩ ?_ ?_
              · rintro i σ' H4 hi ⟨o14, rfl, e4, hup⟩
                rw [show ((0:Int)+(i:Int)) = (i:Int) from Int.zero_add _]
                obtain ⟨s, hs1⟩ : ∃ s, sts[i]? = some s := ⟨_, List.getElem?_eq_getElem hi⟩
                obtain ⟨x, hx, hxr⟩ := alS.at hs1
                obtain ⟨u, x1, x2, rfl, hu1, rfl, rfl⟩ := id (Me.go hxr e4)
                obtain ⟨y, hy⟩ : ∃ y, rl[i]? = some y := ⟨_, List.getElem?_eq_getElem (by rw [hrln]; exact hi)⟩
                have step : (EndS m s → num ≤ y) → ∀ (h : Nat) (s : Stg) (x : Int), h < i + 1 → sts[h]? = some s → EndS m s → rl[h]? = some x → num ≤ x := fun hk h s' x' hh h1 h2 h3 => by
                  rcases (by omega : h < i ∨ h = i) with z | rfl
                  · exact hup h s' x' z h1 h2 h3
                  · rw [hs1] at h1; cases h1
                    rw [hy] at h3; cases h3
                    exact hk h2
                refine ⟨_, rfl, _, rfl, S, _, _, _, rfl, rfl, SqL.of (e4.k hS), atI_nat hx, u, _, _, _, rfl, rfl, SqT.of hu1, atI_nat (j := 1) rfl, rfl, _, rfl, ?_⟩
                rw [dec_str_nil]
                by_cases q1 : s.2 = []
                · rw [decide_eq_true q1]
                  refine iteT ⟨_, rfl, _, rfl, S, _, _, _, rfl, rfl, SqL.of (e4.k hS), atI_nat hx, u, _, _, _, rfl, rfl, SqT.of hu1, atI_nat (j := 0) rfl, _, rfl, ea, _, rfl, .inr (SqT.of (e4.k hea)), rfl, by rw [hexn]; exact flat_nats _, _, rfl, ?_⟩
                  have einv : (if false = true then !inV (vN s.1) exs else inV (vN s.1) exs) = decide (s.1 ∈ m.2.1) := by rw [hexn]; exact inV_nats s.1 m.2.1
                  rw [einv]
                  by_cases q2 : s.1 ∈ m.2.1
                  · rw [decide_eq_true q2]
                    refine iteT ⟨_, rfl, _, rfl, a, _, _, _, rfl, rfl, SqT.of (e4.k hta), atI_end (by rw [hxsl, hFl, Nat.add_sub_cancel]; exact hvl'), _, rfl, ral, _, _, _, rfl, rfl, SqT.of (e4.k hral), atI_nat (by rw [List.getElem?_map, hy]; rfl), _, rfl, _, _, rfl, rfl, _, rfl, ?_⟩
                    by_cases hb : y < num
                    · rw [decide_eq_true hb]
                      exact iteT (kk2 false H4 e4 ⟨fun z => (nomatch z), fun z => by have := z.up i s rl y hs1 ⟨q1, q2⟩ hrl hy; omega⟩)
                    · rw [decide_eq_false hb]
                      exact iteF ⟨_, rfl, e4, step fun _ => by omega⟩
                  · rw [decide_eq_false q2]
                    exact iteF (iteF ⟨_, rfl, e4, step fun z => absurd z.2 q2⟩)
                · rw [decide_eq_false q1]
                  exact iteF (iteF ⟨_, rfl, e4, step fun z => absurd z.1 q1⟩)
              · rintro σ' H4 ⟨o14, rfl, e4, hup⟩
                refine kk2 true H4 e4 ⟨fun _ => ⟨fun r h x hr hh hx => ?_, fun i h to c r x y hr => mo.sil (hs i r (by have := (List.getElem?_eq_some_iff.mp hr).1; omega) hr) h to c x y, fun i h to c a r r2 x y ha hr hr2 ht hx hy => mo.rd (hrd i (by have := (List.getElem?_eq_some_iff.mp ha).1; omega)) ha h to c r r2 x y hr hr2 ht hx hy, fun h s r x h1 h2 h3 h4 => ?_⟩, fun _ => rfl⟩
                · rw [hF0] at hr; cases hr
                  have := nodup_inj so.nd hh h0
                  rw [this, hx0] at hx; cases hx; omega
                · rw [hrl] at h3; cases h3
                  exact hup h s x (List.getElem?_eq_some_iff.mp h1).1 h1 h2 h4
      · rw [decide_eq_false q]
        exact iteT (bad H (Fx.refl _ _) (by show (decide (tl.length = t.length + 1) && _) = false; rw [decide_eq_false q]; rfl))
end
end Fm
/-! t[::-1] of a tuple; slices and sums of tuples, whole or not -/
namespace Fm
open PySem PySem.Spec PyProof.Rows L2 HT
section
variable {prog : Program} {w : World} {A : Around} {E : Value → Shared → Prop} {s : Shared}
theorem slicePlaces_rev (n : Nat) : Builtin.Slice.slicePlaces ((n : Int) - 1) (-1) (-1) = n := by
  unfold Builtin.Slice.slicePlaces
  have h1 : ¬ ((-1 : Int) > 0) := by omega
  have h2 : (- -1 : Int) = 1 := by omega
  simp only [h1, if_false, h2, Int.ediv_one]
  split <;> omega
theorem fm_congr {α β : Type} {f g : α → Option β} : ∀ (l : List α), (∀ m ∈ l, f m = g m) → l.filterMap f = l.filterMap g
  | [], _ => rfl
  | a :: l, h => by
    rw [List.filterMap_cons, List.filterMap_cons, h a List.mem_cons_self, fm_congr l fun m hm => h m (List.mem_cons_of_mem _ hm)]
theorem pick_rev (xs : Array Value) : ((List.range xs.size).filterMap fun (m : Nat) => xs[(((xs.size : Int) - 1) + (m : Int) * (-1)).toNat]?).toArray = xs.toList.reverse.toArray := by
  congr 1
  have e : (List.range xs.size).filterMap (fun (m : Nat) => xs[(((xs.size : Int) - 1) + (m : Int) * (-1)).toNat]?) = ((List.range xs.size).map fun k => xs.size - 1 - k).filterMap (xs[·]?) := by
    rw [List.filterMap_map]
    refine fm_congr _ fun m hm => ?_
    have hm := List.mem_range.mp hm
    show _ = xs[xs.size - 1 - m]?
    congr 1
    omega
  rw [e, PySem.W.krv_range, List.filterMap_reverse, PySem.W.krv_all]
theorem applied_rev {sl : Addr} {vs : Value} {n : Nat} {Q : Int × Int × Nat → Shared → Prop} (hs : s.heap.IsSliceOf sl .none .none vs) (ps : IsPart vs (some (-1))) (h : Q ((n : Int) - 1, -1, n) s) : wpAny (model prog w) A (Builtin.Slice.sliceApplied (.ref sl) (pure (n : Int))) Q E s := by
  obtain ⟨os, hos, hcs, hds⟩ := id hs
  unfold Builtin.Slice.sliceApplied Builtin.Slice.sliceFields
  refine wpAny_bind (wpAny_bind (wpAny_field hos hds (x := .none) rfl (wpAny_bind (wpAny_field hos hds (x := .none) rfl (wpAny_bind (wpAny_field hos hds (x := vs) rfl (wpAny_pure ?_)))))))
  refine wpAny_bind (slicePart_ ps ?_)
  show wpAny _ _ (if ((-1 : Int) == 0) = true then _ else _) _ _ s
  rw [if_neg (by decide)]
  refine wpAny_bind (slicePart_ .none (wpAny_bind (slicePart_ .none (wpAny_bind (wpAny_pure ?_)))))
  show wpAny _ _ (pure ((n : Int) - 1, (-1 : Int), Builtin.Slice.slicePlaces ((n : Int) - 1) (-1) (-1))) _ _ s
  rw [slicePlaces_rev]
  exact wpAny_pure h
theorem getItem_tuple_rev {t sl : Addr} {items : Array Value} {vs : Value} {Q : Value → Shared → Prop} (ht : IsTup s.heap t items) (hs : s.heap.IsSliceOf sl .none .none vs) (ps : IsPart vs (some (-1)))
    (h : Q (.ref s.heap.objs.size) { s with heap := s.heap.push { cls := .type "tuple", data := .seq items.toList.reverse.toArray } }) (hsz : items.size ≤ sizeLine) : wpAny (model prog w) A (getItem (.ref t) (.ref sl)) Q E s := by
  have hrev : sizeOk (.seq items.toList.reverse.toArray) := by
    show items.toList.reverse.toArray.size ≤ sizeLine
    rw [List.size_toArray, List.length_reverse, Array.length_toList]
    exact hsz
  obtain ⟨os, hos, hcs, hds⟩ := id hs
  have hTs : s.TypeIs (.ref sl) "slice" := ⟨os, hos, hcs⟩
  unfold getItem
  try with_reducible refine wpAny_holding ?_
  first | refine wpAny_bind (wpAny_pure ?_) | skip
  refine wpAny_bind (wpAny_sequenceKey ht.typeIs (by decide) ?_)
  refine wpAny_bind (wpAny_callSpecial?_slot (name := Str.ofString "__getitem__") ht.typeIs PyProof.Rows.slot_tuple_getitem
    (wpAny_call_entry PyProof.Rows.slot_tuple_getitem ht.typeIs entry_tuple_getitem ?_ (args_tuple_getitem _ _)))
  show wpAny _ _ (Builtin.Tuple.tupleItemsOf (.ref t) >>= _) _ _ s
  refine wpAny_bind (tupleItemsOf_ ht ?_)
  refine wpAny_bind (wpAny_typeOf hTs ?_)
  rw [if_pos (by decide)]
  refine wpAny_bind (applied_rev hs ps ?_)
  have hno : ¬ ((((items.size : Int) - 1 == 0 && (-1 : Int) == 1 && items.size == items.size)) = true) := by
    simp
  show wpAny _ _ (if (((items.size : Int) - 1 == 0 && (-1 : Int) == 1 && items.size == items.size)) = true then _ else _) _ _ s
  rw [if_neg hno, pick_rev]
  first
    | exact wpAny_bind (m := Builtin.Tuple.tupleExact _) (wpAny_newObj_type (wpAny_pure ⟨_, rfl, wpAny_pure h⟩) hrev)
    | exact wpAny_bind (m := Builtin.Tuple.tupleExact _) (wpAny_newObj_type (wpAny_bind (wpAny_pure (wpAny_pure ⟨_, rfl, wpAny_pure h⟩))) hrev)
end
section
variable {X : Cx}
def tRevT (K : PySem.W.Frag) (te : TE) : TE := fun σ H Q => te σ H fun x H1 => ∃ a xs, x = .ref a ∧ SqT K H1 a xs ∧ ∀ p, H1 p = none → Q (.ref p) (upd H1 p (.tup xs.reverse))
theorem pe_revT {e : Expr} {te : TE} {k : Nat} {p1 p2 p3 pos : Pos} (he : PE X e te) : PE X (.Subscript e (.Slice none none (some (.UnaryOp .USub (.Constant (.int 1) k p1) p2)) p3) pos) (tRevT X.K te) := by
  refine ⟨fun pins s σ H Q I h => ?_⟩
  refine Subscript_ (thn (he.run pins s σ H _ I h) fun v s1 ⟨x, H1, I1, r1, q1⟩ => ?_)
  obtain ⟨a, xs, ex, hx, q⟩ := q1
  subst ex
  cases r1
  have hst : PO X (some (.UnaryOp .USub (.Constant (.int 1) k p1) p2)) (tPart (tUn (rU fun i => .int (-i)) (tC (.int 1)))) := po_some (pe_un un_neg pe_int)
  refine wpAny_Slice (thn (po_none.run pins s1 σ H1 (fun o H2 => o = none ∧ H2 = H1) I1 ⟨rfl, rfl⟩) fun vl s2 ⟨l, H2, I2, pl, el, e2⟩ => ?_)
  subst el e2
  refine thn (po_none.run pins s2 σ H2 (fun o H3 => o = none ∧ H3 = H2) I2 ⟨rfl, rfl⟩) fun vu s3 ⟨u, H3, I3, pu, eu, e3⟩ => ?_
  subst eu e3
  refine thn (hst.run pins s3 σ H3 (fun o H4 => o = some (-1) ∧ H4 = H3) I3 ⟨1, rfl, -1, rfl, rfl, rfl⟩) fun vs s4 ⟨o, H4, I4, ps, eo, e4⟩ => ?_
  subst eo e4
  cases pl
  cases pu
  have I5 : Inv X pins σ H4 { s4 with heap := s4.heap.push { cls := .type "slice", data := .fields #[.none, .none, vs] } } := I4.kept (t' := s4.toks) fun b ob q => Heap.get?_push_of_some _ q
  obtain ⟨its, r, ht, hz⟩ := I5.tuple hx
  have hlen := r.length
  show wpAny (model X.prog X.w) X.A (subscriptTail e (.Slice none none (some (.UnaryOp .USub (.Constant (.int 1) k p1) p2)) p3) (.ref a) (.ref s4.heap.objs.size)) (EP X pins σ Q) X.xe { s4 with heap := s4.heap.push { cls := .type "slice", data := .fields #[.none, .none, vs] } }
  refine tail_any (ops := [.ref a, .ref s4.heap.objs.size]) ht.typeIs (PyProof.Rows.slot_tuple_getitem.lookup) ?_ (by with_unfolding_all rfl)
  refine getItem_tuple_rev ht (Heap.IsSliceOf.new _ .none .none vs) ps ?_ (by rw [List.size_toArray]; omega)
  refine ⟨.ref _, _, I5.laid (t' := s4.toks) (o := .tup xs.reverse) (fun b ob q => Heap.get?_push_of_some _ q) (Nat.le_refl _) ?_, rfl, q _ (I5.hok.fresh (Nat.le_refl _))⟩
  exact ⟨by rw [List.length_reverse]; exact hz, _, r.reverse, IsTup.new _ _⟩
end
section
variable {X : Cx} {K : PySem.W.Frag} {e : Expr} {te : TE} {pos : Pos}
theorem ke_revT {k : Nat} {p1 p2 p3 : Pos} (h : X.K = K) (he : PE X e te) : PE X (.Subscript e (.Slice none none (some (.UnaryOp .USub (.Constant (.int 1) k p1) p2)) p3) pos) (tRevT K te) := by
  subst h; exact pe_revT he
/-- t + u, whatever they are -/
def rCatB : R2 := fun x y H Q => ∃ a b xs ys, x = .ref a ∧ y = .ref b ∧ H a = some (.tup xs) ∧ H b = some (.tup ys) ∧ xs.length + ys.length ≤ sizeLine ∧ ∀ v H', Fe H H' → H' v = some (.tup (xs ++ ys)) → Q (.ref v) H'
theorem ko_catB : OpR X (binaryOp .Add) rCatB := by
  intro pins s σ H x y v u Q I rx ry h
  obtain ⟨a, b, xs, ys, e1, e2, ha, hb, hz, q⟩ := h
  refine op_catA pins s σ H x y v u Q I rx ry ⟨a, b, xs, ys, e1, e2, SqT.of ha, SqT.of hb, hz, fun hx => ?_, fun hx hy => ?_, fun hx hy p hp => ?_⟩
  · subst hx; exact q b H (Fx.refl _ _) hb
  · subst hy; exact q a H (Fx.refl _ _) (by rw [List.append_nil]; exact ha)
  · exact q p _ (Fe.new hp) upd_same
def rSlB : V → Option Int → Option Int → Hp → VK → Prop := fun x lo hi H Q => ∃ a xs, x = .ref a ∧ H a = some (.tup xs) ∧ ∀ v H', Fe H H' → H' v = some (.tup (cutV xs lo hi)) → Q (.ref v) H'
theorem kl_tupB : SlR X rSlB := by
  intro pins s σ H x v vl vu lo hi sl Q I rx hs pl pu h
  obtain ⟨a, xs, e1, hx, q⟩ := h
  refine sl_tupA pins s σ H x v vl vu lo hi sl Q I rx hs pl pu ⟨a, xs, e1, SqT.of hx, fun hw => ?_, fun hw p hp => ?_⟩
  · refine q a H (Fx.refl _ _) ?_
    have e : cutV xs lo hi = xs := by
      unfold cutV
      rw [hw.1, hw.2, List.drop_zero, Nat.sub_zero, List.take_length]
    rw [e]; exact hx
  · exact q p _ (Fe.new hp) upd_same
theorem cutV_mem {xs : List V} {lo hi : Option Int} {x : V} (h : x ∈ cutV xs lo hi) : x ∈ xs := List.mem_of_mem_drop (List.mem_of_mem_take h)
theorem kl_tupA (h : X.K = K) : SlR X (rSlA K) := by subst h; exact sl_tupA
theorem ko_catA (h : X.K = K) : OpR X (binaryOp .Add) (rCatA K) := by subst h; exact op_catA
end
end Fm
/-! floors of the law's own making -/
namespace Fm
open PySem L2
theorem cpow12 : CPow 10 12 := ⟨by decide, by decide, by decide +kernel⟩
theorem cpow39 : CPow 10 39 := ⟨by decide, by decide, by decide +kernel⟩
theorem Cmp.addE {H1 H' : Hp} {D : Addr} {l : List Int} {v : Int} {j N : Nat} (c : Cmp rI H1 D l H') (hl : l.length = j ∧ ∀ x ∈ l, x.natAbs ≤ N) (hv : v.natAbs ≤ N) (hj : j < 1000000) : ∃ acc, H' D = some (.lst acc) ∧ acc.length < sizeLine ∧ ∃ l' : List Int, Cmp rI H1 D l' (upd H' D (.lst (acc ++ [.int v]))) ∧ l'.length = j + 1 ∧ ∀ x ∈ l', x.natAbs ≤ N := by
  obtain ⟨acc, a1, a2, a3⟩ := c.add (x := v) (y := .int v) (by have := hl.1; omega) (Fx.refl _ _) rfl
  refine ⟨acc, a1, a2, l ++ [v], a3, by rw [List.length_append, hl.1]; rfl, fun x hx => ?_⟩
  rcases List.mem_append.mp hx with h | h
  · exact hl.2 x h
  · rw [List.mem_singleton.mp h]; exact hv
/-- a row by its shape -/
def RSh (n N : Nat) (r : List Int) : Prop := r.length = n ∧ ∀ x ∈ r, x.natAbs ≤ N
theorem RSh.up {n N M : Nat} {r : List Int} (h : RSh n N r) (l : N ≤ M) : RSh n M r := ⟨h.1, fun x hx => Nat.le_trans (h.2 x hx) l⟩
theorem Cmp.addF {H6 H' H4 : Hp} {D U : Addr} {Fc : List (List Int)} {n i N : Nat} (c : Cmp rF H6 D Fc H') (hl : Fc.length = i) (hn : ∀ r ∈ Fc, RSh n N r) (hi : i < 1000000) (f : Fe H' H4) {r : List Int} (hr : RSh n N r) (hU : H4 U = some (.tup (r.map V.int))) :
    ∃ acc, H4 D = some (.lst acc) ∧ acc.length < sizeLine ∧ ∃ Fc' : List (List Int), Cmp rF H6 D Fc' (upd H4 D (.lst (acc ++ [.ref U]))) ∧ Fc'.length = i + 1 ∧ ∀ r ∈ Fc', RSh n N r := by
  obtain ⟨acc, a1, a2, a3⟩ := c.add (x := r) (y := .ref U) (by omega) f ⟨U, rfl, hU⟩
  refine ⟨acc, a1, a2, Fc ++ [r], a3, by rw [List.length_append, hl]; rfl, fun r' hr' => ?_⟩
  rcases List.mem_append.mp hr' with h | h
  · exact hn r' h
  · rw [List.mem_singleton.mp h]; exact hr
theorem intat {r : List Int} {j : Nat} {y : V} (h : (r.map V.int)[j]? = some y) : ∃ c : Int, r[j]? = some c ∧ y = .int c := by
  rw [List.getElem?_map] at h
  cases z : r[j]? with
  | none => rw [z] at h; cases h
  | some c => rw [z] at h; exact ⟨c, rfl, (Option.some.inj h).symm⟩
theorem rowat {H : Hp} {pvs : List V} {Fl : List (List Int)} {n i N : Nat} {x : V} (h : Al rF H pvs Fl ∧ ∀ r ∈ Fl, RSh n N r) (hx : pvs[i]? = some x) : ∃ (q : Addr) (r : List Int), H q = some (.tup (r.map V.int)) ∧ RSh n N r ∧ x = .ref q := by
  obtain ⟨r, hr, ⟨q, rfl, hq⟩⟩ := h.1.get hx
  exact ⟨q, r, hq, h.2 r (List.mem_of_getElem? hr), rfl⟩
theorem Al.cut {α : Type} {r : Rp α} {H : Hp} : ∀ {xs : List V} {l : List α} (k : Nat), Al r H xs l → Al r H (xs.take k) (l.take k) ∧ Al r H (xs.drop k) (l.drop k)
  | _, _, _, .nil => by simp; exact .nil
  | _, _, 0, .cons h t => ⟨.nil, .cons h t⟩
  | _, _, k + 1, .cons h t => ⟨.cons h (Al.cut k t).1, (Al.cut k t).2⟩
theorem cutV_to (xs : List V) (k : Nat) (h : k ≤ xs.length) : cutV xs none (some (k : Int)) = xs.take k := by
  unfold cutV
  rw [HT.sIx_nat, Nat.min_eq_left h]
  show (xs.drop 0).take (k - 0) = _
  rfl
theorem cutV_from (xs : List V) (k : Nat) (h : k ≤ xs.length) : cutV xs (some (k : Int)) none = xs.drop k := by
  unfold cutV
  rw [HT.sIx_nat, Nat.min_eq_left h]
  show (xs.drop k).take (xs.length - k) = _
  exact List.take_of_length_le (by rw [List.length_drop]; exact Nat.le_refl _)
theorem max1 (far : Nat) : (if (far : Int) > 1 then (far : Int) else 1) + 1 = ((max 1 far + 1 : Nat) : Int) := by
  split <;> omega
/-- floors by their shape -/
def FlSh (k n : Nat) (F : List (List Int)) : Prop := F.length = k ∧ ∀ r ∈ F, RSh n (10 ^ 40) r
def spOwn : Sp := fun vs H Q _ => ∃ (p g R : Addr) (ps : List Addr) (rows : List CRow) (n far : Nat), vs = [.ref p, .ref R, vN far] ∧ Pl H p g ∧ far ≤ 1000 ∧ R ∉ [p, g] ∧ (∀ q ∈ ps, q ∉ [p, g]) ∧ H R = some (.lst (ps.map V.ref)) ∧ ps.length = rows.length ∧ rows.length ≤ 2000 ∧ n ≤ 4000 ∧
  (∀ (k : Nat) (q : Addr) (r : CRow), ps[k]? = some q → rows[k]? = some r → H q = some (.lst (r.map oV)) ∧ r.length = n ∧ ∀ c : Nat, some c ∈ r → c ≤ 10 ^ 9) ∧
  ∀ (q : Addr) (fv : List V) (Fs : List (List (List Int))) (H' : Hp), Fx [p, g] H H' → Pl H' p g → q ∉ [p, g] → H' q = some (.lst fv) → Al (rT rF) H' fv Fs → (∀ F ∈ Fs, FlSh rows.length n F) → Q (.ref q) H'
section
variable {P : Program} {w : World} {K : PySem.W.Frag} {g : Str → Option Value} {base : Heap}
theorem ok_law_own_floors (T : Txt K g) : FnOk P w K g base CX0 2 T.d_law_own_floors.f T.d_law_own_floors.fd P_law_own_floors spOwn := by
  refine T.d_law_own_floors.F.ok sc_law_own_floors (fun vs H Q E h => ?_) (fun cdv A outer s H vs Q E hr h => ?_)
  · obtain ⟨_, _, _, _, _, _, _, rfl, _⟩ := h
    rfl
  · obtain ⟨p, g, R, ps, rows, n, far, rfl, P0, hfar, nR, nps, hR, hpl, hr2, hn4, hrows, kk⟩ := h
    have hu := hu_of hr
    refine ⟨_, (pss_cons (ps_set (i := 3) sc_law_own_floors.nd rfl (by first | exact Or.inl rfl | exact Or.inr rfl) pe_int)
    (pss_cons (ps_for PassesOwn.never rfl (ki_list (K := K) rfl (pv 1)) (pg_name (i := 4) sc_law_own_floors.nd rfl (by first | exact Or.inl rfl | exact Or.inr rfl))
      (pss_one (ps_set (i := 3) sc_law_own_floors.nd rfl (by first | exact Or.inl rfl | exact Or.inr rfl) (pe_callB (kc_max (K := K) rfl rfl) (by rfl) T.z_max (by decide +kernel) (pa_cons (pe_op op_cat (pe_lst (pa_cons (pv 3) pa_nil)) (pe_lc (own := [("cell", 13)]) rfl sc_law_own_floors.nd (ki_list (K := K) rfl (pv 4)) (blkOk_by (N := N_law_own_floors) (sc := defScope s_law_own_floors) (by decide +kernel)) (fun _ _ _ _ _ => by exact (pg_name (i := 13) sc_law_own_floors.nd rfl (by first | exact Or.inl rfl | exact Or.inr rfl))) (fun _ _ _ _ _ => by exact pts_one (pt_cmpR op_notN (pv 13) pe_non (nomark _))) (fun _ _ _ _ _ => by exact (pv 13)))) pa_nil)))))
    (pss_cons (ps_set (i := 5) sc_law_own_floors.nd rfl (by first | exact Or.inl rfl | exact Or.inr rfl) (pe_ix (kx_list (K := K) rfl) (pe_lst (pa_cons (pe_op op_add (pv 3) pe_int) (pa_cons (pe_op op_add (pv 3) pe_int) (pa_cons (pe_op op_pow pe_int pe_int) (pa_cons (pe_op op_pow pe_int pe_int) pa_nil))))) (pe_call (ok_law_draw T) (hr.mono (by decide)) rfl T.d_law_draw.mg T.d_law_draw.kp T.d_law_draw.b .nil pass0 (pa_cons (pv 0) (pa_cons pe_int pa_nil))) (fun _ _ => rfl)))
    (pss_cons (ps_set (i := 6) sc_law_own_floors.nd rfl (by first | exact Or.inl rfl | exact Or.inr rfl) (pe_lst pa_nil))
    (pss_cons (ps_for PassesOwn.never rfl (ki_list (K := K) rfl (pv 1)) (pg_name (i := 4) sc_law_own_floors.nd rfl (by first | exact Or.inl rfl | exact Or.inr rfl))
      (pss_one (ps_expr (ke_bm (K := K) rfl PySem.F.plainAttrs_list PySem.F.slot_list_append PySem.F.type_list_append mt_append (pv 6) (pa_cons (pe_callTy (kc_tuple (K := K) rfl) (by rfl) T.z_tuple (by decide +kernel) (pa_cons (pe_lc (own := [("cell", 13)]) rfl sc_law_own_floors.nd (ki_list (K := K) rfl (pv 4)) (blkOk_by (N := N_law_own_floors) (sc := defScope s_law_own_floors) (by decide +kernel)) (fun _ _ _ _ _ => by exact (pg_name (i := 13) sc_law_own_floors.nd rfl (by first | exact Or.inl rfl | exact Or.inr rfl))) (fun _ _ _ _ _ => by exact pts_nil) (fun _ _ _ _ _ => by exact (pe_ifExp (pt_cmpR op_isN (pv 13) pe_non (nomark _)) (pv 5) (pv 13)))) pa_nil)) pa_nil)))))
    (pss_cons (ps_set (i := 7) sc_law_own_floors.nd rfl (by first | exact Or.inl rfl | exact Or.inr rfl) (pe_call (ok_law_draw T) (hr.mono (by decide)) rfl T.d_law_draw.mg T.d_law_draw.kp T.d_law_draw.b .nil pass0 (pa_cons (pv 0) (pa_cons (pe_op op_add (pe_callB (call_max2 rfl) (by rfl) T.z_max (by decide +kernel) (pa_cons pe_int (pa_cons (pv 2) pa_nil))) pe_int) pa_nil))))
    (pss_cons (ps_set (i := 8) sc_law_own_floors.nd rfl (by first | exact Or.inl rfl | exact Or.inr rfl) (pe_call (ok_law_draw T) (hr.mono (by decide)) rfl T.d_law_draw.mg T.d_law_draw.kp T.d_law_draw.b .nil pass0 (pa_cons (pv 0) (pa_cons (pe_op op_add (pe_callB (kc_len (K := K) rfl) (by rfl) T.z_len PySem.boot_len (pa_cons (pv 1) pa_nil)) pe_int) pa_nil))))
    (pss_cons (ps_set (i := 9) sc_law_own_floors.nd rfl (by first | exact Or.inl rfl | exact Or.inr rfl) (pe_op op_add pe_int (pe_call (ok_law_draw T) (hr.mono (by decide)) rfl T.d_law_draw.mg T.d_law_draw.kp T.d_law_draw.b .nil pass0 (pa_cons (pv 0) (pa_cons pe_int pa_nil)))))
    (pss_cons (ps_setLc (i := 10) (own := [("row", 4)]) rfl sc_law_own_floors.nd rfl rfl (sw_true rfl rfl rfl (by decide +kernel)) (ki_list (K := K) rfl (pv 6)) (blkOk_by (N := N_law_own_floors) (sc := defScope s_law_own_floors) (by decide +kernel)) (fun _ _ _ _ _ => by exact (pg_name (i := 4) sc_law_own_floors.nd rfl (by first | exact Or.inl rfl | exact Or.inr rfl))) (fun _ _ _ _ _ => by exact pts_nil) (fun _ _ _ _ _ => by exact (pe_callTy (kc_tuple (K := K) rfl) (by rfl) T.z_tuple (by decide +kernel) (pa_cons (pe_lc (own := [("cell", 13)]) rfl sc_law_own_floors.nd (ki_tup (K := K) rfl (pv 4)) (by exact blkOk_by (N := N_law_own_floors) (by kernel_rfl)) (fun _ _ _ _ _ => by exact (pg_name (i := 13) sc_law_own_floors.nd rfl (by first | exact Or.inl rfl | exact Or.inr rfl))) (fun _ _ _ _ _ => by exact pts_nil) (fun _ _ _ _ _ => by exact (pe_callB (call_min2 rfl) (by rfl) T.z_min (by decide +kernel) (pa_cons (pv 13) (pa_cons (pv 7) pa_nil))))) pa_nil))))
    (pss_cons (ps_setLc (i := 11) (own := [("row", 4)]) rfl sc_law_own_floors.nd rfl rfl (sw_true rfl rfl rfl (by decide +kernel)) (ki_list (K := K) rfl (pv 6)) (blkOk_by (N := N_law_own_floors) (sc := defScope s_law_own_floors) (by decide +kernel)) (fun _ _ _ _ _ => by exact (pg_name (i := 4) sc_law_own_floors.nd rfl (by first | exact Or.inl rfl | exact Or.inr rfl))) (fun _ _ _ _ _ => by exact pts_nil) (fun _ _ _ _ _ => by exact (pe_callTy (kc_tuple (K := K) rfl) (by rfl) T.z_tuple (by decide +kernel) (pa_cons (pe_lc (own := [("cell", 13)]) rfl sc_law_own_floors.nd (ki_tup (K := K) rfl (pv 4)) (by exact blkOk_by (N := N_law_own_floors) (by kernel_rfl)) (fun _ _ _ _ _ => by exact (pg_name (i := 13) sc_law_own_floors.nd rfl (by first | exact Or.inl rfl | exact Or.inr rfl))) (fun _ _ _ _ _ => by exact pts_nil) (fun _ _ _ _ _ => by exact (pe_op op_fdiv (pv 13) pe_int))) pa_nil))))
    (pss_cons (ps_set (i := 12) sc_law_own_floors.nd rfl (by first | exact Or.inl rfl | exact Or.inr rfl) (pe_op op_cat (pe_slice (kl_list (K := K) rfl) (pv 6) po_none (po_some (pv 8))) (pe_lc (own := [("row", 4)]) rfl sc_law_own_floors.nd (ki_list (K := K) rfl (pe_slice (kl_list (K := K) rfl) (pv 6) (po_some (pv 8)) po_none)) (blkOk_by (N := N_law_own_floors) (sc := defScope s_law_own_floors) (by decide +kernel)) (fun _ _ _ _ _ => by exact (pg_name (i := 4) sc_law_own_floors.nd rfl (by first | exact Or.inl rfl | exact Or.inr rfl))) (fun _ _ _ _ _ => by exact pts_nil) (fun _ _ _ _ _ => by exact (pe_callTy (kc_tuple (K := K) rfl) (by rfl) T.z_tuple (by decide +kernel) (pa_cons (pe_lc (own := [("cell", 13)]) rfl sc_law_own_floors.nd (ki_tup (K := K) rfl (pv 4)) (by exact blkOk_by (N := N_law_own_floors) (by kernel_rfl)) (fun _ _ _ _ _ => by exact (pg_name (i := 13) sc_law_own_floors.nd rfl (by first | exact Or.inl rfl | exact Or.inr rfl))) (fun _ _ _ _ _ => by exact pts_nil) (fun _ _ _ _ _ => by exact (pe_op op_sub (pv 13) (pv 9)))) pa_nil))))))
    (pss_one (ps_ret (pe_lst (pa_cons (pe_callTy (kc_tuple (K := K) rfl) (by rfl) T.z_tuple (by decide +kernel) (pa_cons (pv 6) pa_nil)) (pa_cons (pe_callTy (kc_tuple (K := K) rfl) (by rfl) T.z_tuple (by decide +kernel) (pa_cons (pv 10) pa_nil)) (pa_cons (pe_callTy (kc_tuple (K := K) rfl) (by rfl) T.z_tuple (by decide +kernel) (pa_cons (pv 11) pa_nil)) (pa_cons (pe_callTy (kc_tuple (K := K) rfl) (by rfl) T.z_tuple (by decide +kernel) (pa_cons (pv 12) pa_nil)) pa_nil)))))))))))))))))), ?_⟩
    obtain ⟨N0, hN0⟩ : ∃ N : Nat, N = 10 ^ 39 := ⟨_, rfl⟩
    obtain ⟨N1, hN1⟩ : ∃ N : Nat, N = 10 ^ 40 := ⟨_, rfl⟩
    have hN01 : N0 + 1000 ≤ N1 := by rw [hN0, hN1]; decide +kernel
    have hN00 : 10 ^ 9 + 1000 ≤ N0 := by rw [hN0]; decide +kernel
    have hrow : ∀ {i : Nat} {x : V}, (ps.map V.ref)[i]? = some x → ∃ (q : Addr) (r : CRow), q ∉ [p, g] ∧ H q = some (.lst (r.map oV)) ∧ r.length = n ∧ (∀ c : Nat, some c ∈ r → c ≤ 10 ^ 9) ∧ x = .ref q := fun {i x} hx => by
      rw [List.getElem?_map] at hx
      cases z : ps[i]? with
      | none => rw [z] at hx; cases hx
      | some q =>
        rw [z] at hx
        obtain ⟨r, hr⟩ : ∃ r, rows[i]? = some r := ⟨_, List.getElem?_eq_getElem (by rw [← hpl]; exact (List.getElem?_eq_some_iff.mp z).1)⟩
        obtain ⟨h1, h2, h3⟩ := hrows i q r z hr
        exact ⟨q, r, nps q (List.mem_of_getElem? z), h1, h2, h3, (Option.some.inj hx).symm⟩
    refine ⟨_, rfl, R, rfl, ⟨_, SqL.of hR⟩, for_lst (xs := ps.map V.ref) (fun i σ' H' => ∃ (most : Int) (o4 : Option V), σ' = [some (.ref p), some (.ref R), some (vN far), some (.int most), o4, none, none, none, none, none, none, none, none, none] ∧ Fe H H' ∧ most.natAbs ≤ 10 ^ 9) ⟨_, _, rfl, Fx.refl _ _, by decide⟩ (fun i σ' H' _ ⟨_, _, _, e, _⟩ => e.k hR) ?_ ?_⟩
    · rintro i x σ' H1 hx ⟨most, o4, rfl, e1, hmost⟩
      obtain ⟨q, r, nq, hq, hrn, hrb, rfl⟩ := hrow hx
      refine ⟨_, rfl, by show 1 ≤ sizeLine; decide, fun L hL => ?_⟩
      have gL := Fe.new (o := .lst [.int most]) hL
      have hLv : (upd H1 L (.lst [.int most])) L = some (.lst [.int most]) := upd_same
      have hq1 := gL.k (e1.k hq)
      generalize upd H1 L (.lst [.int most]) = H2 at gL hLv hq1 ⊢
      refine ⟨_, rfl, q, rfl, ⟨_, SqL.of hq1⟩, fun C hC => lc_list (xs := r.map oV) (fun j H' => ∃ l : List Int, Cmp rI H2 C l H' ∧ l.length ≤ j ∧ ∀ x ∈ l, x.natAbs ≤ 10 ^ 9) ⟨[], Cmp.start hC, Nat.le_refl _, fun _ h => nomatch h⟩ (fun j H' hj ⟨_, c, _⟩ => SqL.of (c.fe.k hq1)) (fun j y H' hy ⟨l, c, hl, hlb⟩ => ?_) (fun H3 ⟨l, c, hl, hlb⟩ => ?_)⟩
      · have hjr := (List.getElem?_eq_some_iff.mp hy).1
        rw [List.length_map] at hjr
        obtain ⟨oc, hoc, rfl⟩ : ∃ oc, r[j]? = some oc ∧ y = oV oc := by
          rw [List.getElem?_map] at hy
          cases z : r[j]? with
          | none => rw [z] at hy; cases hy
          | some oc => rw [z] at hy; exact ⟨oc, rfl, (Option.some.inj hy).symm⟩
        cases oc with
        | none => exact ⟨rfl, _, rfl, rfl, _, rfl, iteF ⟨l, c, by omega, hlb⟩⟩
        | some d =>
          obtain ⟨acc, a1, a2, l', a3, a4, a5⟩ := c.addE (v := (d : Int)) (N := 10 ^ 9) ⟨rfl, hlb⟩ (by have := hrb d (List.mem_of_getElem? hoc); rw [Int.natAbs_natCast]; exact this) (by omega)
          exact ⟨rfl, _, rfl, rfl, _, rfl, iteT ⟨_, rfl, acc, a1, a2, l', a3, by omega, a5⟩⟩
      · rw [List.length_map] at hl
        obtain ⟨_, cv, eC, hCv, alc⟩ := c.rl
        cases eC
        have hci := alc.ints
        subst hci
        refine ⟨L, C, _, _, rfl, rfl, c.fe.k hLv, hCv, by rw [sizeLine_eq, List.length_map]; simp only [List.length_singleton]; omega, fun U hU => ?_⟩
        refine ⟨U, most :: l, rfl, SqL.of upd_same, by simp, fun mx hmx _ => ?_⟩
        refine ⟨mx, _, rfl, ((e1.trans gL).trans c.fe).trans (Fe.new hU), ?_⟩
        rcases List.mem_cons.mp hmx with rfl | h
        · exact hmost
        · exact hlb mx h
    · rintro σ' H1 ⟨most, o4, rfl, e1, hmost⟩
      have P1 := P0.keep e1
      refine ⟨_, rfl, _, _, rfl, rfl, _, rfl, _, _, rfl, rfl, _, _, rfl, rfl, cpow12, _, _, rfl, rfl, cpow39, by show 4 ≤ sizeLine; decide, fun L hL => ?_⟩
      have gL := Fe.new (o := .lst [.int (most + 1), .int (most + 1000), .int (10 ^ (12 : Int).toNat), .int (10 ^ (39 : Int).toNat)]) hL
      have hLv : (upd H1 L (.lst [.int (most + 1), .int (most + 1000), .int (10 ^ (12 : Int).toNat), .int (10 ^ (39 : Int).toNat)])) L = some (.lst [.int (most + 1), .int (most + 1000), .int (10 ^ (12 : Int).toNat), .int (10 ^ (39 : Int).toNat)]) := upd_same
      have P2 := P1.keep gL
      have nL := P1.nw hL
      have e2 := e1.trans gL
      generalize upd H1 L (.lst [.int (most + 1), .int (most + 1000), .int (10 ^ (12 : Int).toNat), .int (10 ^ (39 : Int).toNat)]) = H2 at gL hLv P2 e2 ⊢
      refine ⟨_, rfl, p, g, 4, rfl, P2, by decide, by decide, fun d H3 f3 P3 hd => ?_⟩
      obtain ⟨gr, hgr, hgrb⟩ : ∃ gr : Int, ([.int (most + 1), .int (most + 1000), .int (10 ^ (12 : Int).toNat), .int (10 ^ (39 : Int).toNat)] : List V)[d]? = some (.int gr) ∧ gr.natAbs ≤ N0 := by
        rcases (by omega : d = 0 ∨ d = 1 ∨ d = 2 ∨ d = 3) with rfl | rfl | rfl | rfl
        · exact ⟨_, rfl, by omega⟩
        · exact ⟨_, rfl, by omega⟩
        · exact ⟨_, rfl, by rw [hN0]; decide +kernel⟩
        · exact ⟨_, rfl, by rw [hN0]; decide +kernel⟩
      refine ⟨L, _, _, .int gr, rfl, rfl, SqL.of (f3.keep _ _ nL hLv), atI_nat hgr, ?_⟩
      have f03 : Fx [p, g] H H3 := e2.to.trans f3
      clear hgr hLv gL nL f3 P2 e2 hL e1 P1
      -- plain
      refine ⟨Nat.zero_le _, fun P0a hP0 => ?_⟩
      have gP := Fe.new (o := .lst []) hP0
      have P0v : (upd H3 P0a (.lst [])) P0a = some (.lst []) := upd_same
      generalize upd H3 P0a (.lst []) = H4 at gP P0v ⊢
      have hR3 := f03.keep _ _ nR hR
      refine ⟨_, rfl, R, rfl, ⟨_, SqL.of (gP.k hR3)⟩, for_lst (xs := ps.map V.ref) (fun i σ' H' => ∃ (pvs : List V) (Fl : List (List Int)) (o4 : Option V), σ' = [some (.ref p), some (.ref R), some (vN far), some (.int most), o4, some (.int gr), some (.ref P0a), none, none, none, none, none, none, none] ∧ Fe H3 H' ∧ H' P0a = some (.lst pvs) ∧ Al rF H' pvs Fl ∧ Fl.length = i ∧ ∀ r ∈ Fl, RSh n N0 r) ⟨[], [], _, rfl, gP, P0v, .nil, rfl, fun _ h => nomatch h⟩ (fun i σ' H' _ ⟨_, _, _, _, e, _⟩ => e.k hR3) ?_ ?_⟩
      · rintro i x σ' H5 hx ⟨pvs, Fl, o4, rfl, e5, hP5, al5, hl5, hn5⟩
        have hip := (List.getElem?_eq_some_iff.mp hx).1
        rw [List.length_map] at hip
        obtain ⟨q, r, nq, hq, hrn, hrb, rfl⟩ := hrow hx
        have hq5 := e5.k (f03.keep _ _ nq hq)
        refine ⟨_, rfl, .inl ⟨rfl, _, SqL.of hP5⟩, _, rfl, q, rfl, ⟨_, SqL.of hq5⟩, fun C hC => lc_list (xs := r.map oV) (fun j H' => ∃ l : List Int, Cmp rI H5 C l H' ∧ l.length = j ∧ ∀ x ∈ l, x.natAbs ≤ N0) ⟨[], Cmp.start hC, rfl, fun _ h => nomatch h⟩ (fun j H' hj ⟨_, c, _⟩ => SqL.of (c.fe.k hq5)) (fun j y H' hy ⟨l, c, hl⟩ => ?_) (fun H6 ⟨l, c, hl⟩ => ?_)⟩
        · have hjr := (List.getElem?_eq_some_iff.mp hy).1
          rw [List.length_map] at hjr
          obtain ⟨oc, hoc, rfl⟩ : ∃ oc, r[j]? = some oc ∧ y = oV oc := by
            rw [List.getElem?_map] at hy
            cases z : r[j]? with
            | none => rw [z] at hy; cases hy
            | some oc => rw [z] at hy; exact ⟨oc, rfl, (Option.some.inj hy).symm⟩
          refine ⟨rfl, ?_⟩
          refine iteT (B := ∃ l : List Int, Cmp rI H5 C l H' ∧ l.length = j + 1 ∧ ∀ x ∈ l, x.natAbs ≤ N0) ?_
          cases oc with
          | none => exact ⟨_, rfl, rfl, _, rfl, iteT ⟨_, rfl, c.addE hl hgrb (by omega)⟩⟩
          | some d => exact ⟨_, rfl, rfl, _, rfl, iteF ⟨_, rfl, c.addE (v := (d : Int)) hl (by have := hrb d (List.mem_of_getElem? hoc); omega) (by omega)⟩⟩
        · rw [List.length_map, hrn] at hl
          obtain ⟨_, ys, eD, hCv, aly⟩ := c.rl
          cases eD
          have hyi := aly.ints
          refine ⟨C, _, rfl, .inl ⟨SqL.of hCv, fun U hU => ?_⟩⟩
          have gU := Fe.new (o := .tup ys) hU
          have e7 := c.fe.trans gU
          refine ⟨P0a, _, _, rfl, rfl, e7.k hP5, by rw [al5.len, sizeLine_eq]; omega, ?_⟩
          have fP : Fx [P0a] (upd H6 U (.tup ys)) (upd (upd H6 U (.tup ys)) P0a (.lst (pvs ++ [.ref U]))) := Fx.put (e7.k hP5) (List.mem_singleton.mpr rfl) (fun _ z => nomatch z)
          refine ⟨_, Fl ++ [l], _, rfl, (e5.trans e7).mut hP0, upd_same, Al.snoc ⟨U, rfl, fP.tups _ _ (by rw [upd_same, hyi])⟩ (Al.mo fP (Al.mo e7 al5)), by rw [List.length_append, hl5]; rfl, fun r' hr' => ?_⟩
          rcases List.mem_append.mp hr' with h | h
          · exact hn5 r' h
          · rw [List.mem_singleton.mp h]; exact hl
      · rintro σ' H5 ⟨pvs, Fl, o4, rfl, e5, hP5, al5, hl5, hn5⟩
        rw [List.length_map, hpl] at hl5
        have nP := P3.nw hP0
        have P5 := P3.keep e5
        have f05 : Fx [p, g] H H5 := f03.trans e5.to
        clear hR3 gP P0v e5 f03
        -- cap, place, less
        refine ⟨_, rfl, _, rfl, _, _, rfl, _, _, rfl, rfl, p, g, max 1 far + 1, congrArg (fun z => [V.ref p, V.int z]) (max1 far), P5, by omega, by omega, fun cap H6 f6 P6 hcap => ?_⟩
        have hR6 := (f05.trans f6).keep _ _ nR hR
        refine ⟨_, rfl, _, rfl, R, _, rfl, .inl (SqL.of hR6), _, _, rfl, rfl, p, g, ps.length + 1, by rw [List.length_map]; rfl, P6, by omega, by omega, fun pl H7 f7 P7 hpl2 => ?_⟩
        refine ⟨_, rfl, p, g, 3, rfl, P7, by decide, by decide, fun ls H8 f8 P8 hls => ⟨_, _, rfl, rfl, ?_⟩⟩
        have f58 := (f6.trans f7).trans f8
        have f08 := f05.trans f58
        have hP8 := f58.keep _ _ nP hP5
        have al8 : Al rF H8 pvs Fl ∧ ∀ r ∈ Fl, RSh n N0 r := ⟨Al.mo f58 al5, hn5⟩
        have hpvl := al5.len
        clear hP5 al5 hR6
        -- capped
        refine ⟨_, rfl, P0a, rfl, ⟨_, SqL.of hP8⟩, fun D2 hD2 => lc_list (xs := pvs) (fun i H' => ∃ Fc : List (List Int), Cmp rF H8 D2 Fc H' ∧ Fc.length = i ∧ ∀ r ∈ Fc, RSh n N1 r) ⟨[], Cmp.start hD2, rfl, fun _ h => nomatch h⟩ (fun i H' hi ⟨_, c, _⟩ => SqL.of (c.fe.k hP8)) (fun i x H' hx ⟨Fc, c, hcl, hcn⟩ => ?_) (fun H9 ⟨F1, c1, hl1, hn1⟩ => ?_)⟩
        · obtain ⟨q9, r9, hq9, hr9, hx9⟩ := rowat al8 hx
          subst hx9
          have hq9v := c.fe.k (id hq9)
          refine ⟨rfl, ?_⟩
          refine iteT (B := ∃ Fc : List (List Int), Cmp rF H8 D2 Fc H' ∧ Fc.length = i + 1 ∧ ∀ r ∈ Fc, RSh n N1 r) ?_
          refine ⟨_, rfl, q9, rfl, ⟨_, SqT.of hq9v⟩, fun D3 hD3 => lc_tup (xs := r9.map V.int) (fun j H2 => ∃ l : List Int, Cmp rI H' D3 l H2 ∧ l.length = j ∧ ∀ x ∈ l, x.natAbs ≤ N1) ⟨[], Cmp.start hD3, rfl, fun _ h => nomatch h⟩ (fun j H2 hj ⟨_, c2, _⟩ => SqT.of (c2.fe.k hq9v)) (fun j y H2 hy ⟨l, c2, hl⟩ => ?_) (fun H7 ⟨l, c2, hl⟩ => ?_)⟩
          · obtain ⟨cc, hcc, rfl⟩ := intat hy
            refine ⟨rfl, ?_⟩
            refine iteT (B := ∃ l : List Int, Cmp rI H' D3 l H2 ∧ l.length = j + 1 ∧ ∀ x ∈ l, x.natAbs ≤ N1) ?_
            have hccb := hr9.2 cc (List.mem_of_getElem? hcc)
            have hr9l := hr9.1
            exact ⟨_, rfl, _, rfl, _, _, rfl, c2.addE hl (by split <;> omega) (by have := (List.getElem?_eq_some_iff.mp hy).1; rw [List.length_map, hr9l] at this; omega)⟩
          · obtain ⟨_, ys, eD, hD3v, aly⟩ := c2.rl
            cases eD
            have hyi := aly.ints
            rw [List.length_map, hr9.1] at hl
            refine ⟨D3, _, rfl, .inl ⟨SqL.of hD3v, fun U hU => ?_⟩⟩
            have gU := Fe.new (o := .tup ys) hU
            exact c.addF hcl hcn (by have := (List.getElem?_eq_some_iff.mp hx).1; omega) (c2.fe.trans gU) hl (by rw [upd_same, hyi])
        · obtain ⟨_, v1, eD1, hv1, al1⟩ := c1.rl
          cases eD1
          have f59 := c1.fe
          have hP9 := f59.k hP8
          have al9 : Al rF H9 pvs Fl ∧ ∀ r ∈ Fl, RSh n N0 r := ⟨Al.mo f59 al8.1, hn5⟩
          -- halved
          refine ⟨_, rfl, P0a, rfl, ⟨_, SqL.of hP9⟩, fun D2' hD2' => lc_list (xs := pvs) (fun i H' => ∃ Fc : List (List Int), Cmp rF H9 D2' Fc H' ∧ Fc.length = i ∧ ∀ r ∈ Fc, RSh n N1 r) ⟨[], Cmp.start hD2', rfl, fun _ h => nomatch h⟩ (fun i H' hi ⟨_, c, _⟩ => SqL.of (c.fe.k hP9)) (fun i x H' hx ⟨Fc, c, hcl, hcn⟩ => ?_) (fun HA ⟨F2, c2, hl2, hn2⟩ => ?_)⟩
          · obtain ⟨q9, r9, hq9, hr9, hx9⟩ := rowat al9 hx
            subst hx9
            have hq9v := c.fe.k (id hq9)
            refine ⟨rfl, ?_⟩
            refine iteT (B := ∃ Fc : List (List Int), Cmp rF H9 D2' Fc H' ∧ Fc.length = i + 1 ∧ ∀ r ∈ Fc, RSh n N1 r) ?_
            refine ⟨_, rfl, q9, rfl, ⟨_, SqT.of hq9v⟩, fun D3 hD3 => lc_tup (xs := r9.map V.int) (fun j H2 => ∃ l : List Int, Cmp rI H' D3 l H2 ∧ l.length = j ∧ ∀ x ∈ l, x.natAbs ≤ N1) ⟨[], Cmp.start hD3, rfl, fun _ h => nomatch h⟩ (fun j H2 hj ⟨_, c2, _⟩ => SqT.of (c2.fe.k hq9v)) (fun j y H2 hy ⟨l, c2, hl⟩ => ?_) (fun H7 ⟨l, c2, hl⟩ => ?_)⟩
            · obtain ⟨cc, hcc, rfl⟩ := intat hy
              refine ⟨rfl, ?_⟩
              refine iteT (B := ∃ l : List Int, Cmp rI H' D3 l H2 ∧ l.length = j + 1 ∧ ∀ x ∈ l, x.natAbs ≤ N1) ?_
              have hccb := hr9.2 cc (List.mem_of_getElem? hcc)
              have hr9l := hr9.1
              exact ⟨_, rfl, _, _, rfl, rfl, ⟨by decide, by decide⟩, c2.addE hl (by show (cc / 2 : Int).natAbs ≤ N1; omega) (by have := (List.getElem?_eq_some_iff.mp hy).1; rw [List.length_map, hr9l] at this; omega)⟩
            · obtain ⟨_, ys, eD, hD3v, aly⟩ := c2.rl
              cases eD
              have hyi := aly.ints
              rw [List.length_map, hr9.1] at hl
              refine ⟨D3, _, rfl, .inl ⟨SqL.of hD3v, fun U hU => ?_⟩⟩
              have gU := Fe.new (o := .tup ys) hU
              exact c.addF hcl hcn (by have := (List.getElem?_eq_some_iff.mp hx).1; omega) (c2.fe.trans gU) hl (by rw [upd_same, hyi])
          · obtain ⟨_, v2, eD2, hv2, al2⟩ := c2.rl
            cases eD2
            have hPA := c2.fe.k hP9
            have alA : Al rF HA pvs Fl := Al.mo c2.fe al9.1
            have hplv : pl ≤ pvs.length := by rw [hpvl, hl5]; omega
            -- lowered
            refine ⟨_, rfl, _, rfl, _, rfl, P0a, pvs, rfl, SqL.of hPA, fun S1 hS1 => ?_⟩
            rw [cutV_to pvs pl hplv]
            have gS1 := Fe.new (o := .lst (pvs.take pl)) hS1
            have hS1v : (upd HA S1 (.lst (pvs.take pl))) S1 = some (.lst (pvs.take pl)) := upd_same
            generalize upd HA S1 (.lst (pvs.take pl)) = HB at gS1 hS1v ⊢
            refine ⟨_, rfl, _, rfl, _, rfl, P0a, pvs, rfl, SqL.of (gS1.k hPA), fun S2 hS2 => ?_⟩
            rw [cutV_from pvs pl hplv]
            have gS2 := Fe.new (o := .lst (pvs.drop pl)) hS2
            have hS2v : (upd HB S2 (.lst (pvs.drop pl))) S2 = some (.lst (pvs.drop pl)) := upd_same
            generalize upd HB S2 (.lst (pvs.drop pl)) = HC at gS2 hS2v ⊢
            have alC := Al.mo (gS1.trans gS2) alA
            have alCd : Al rF HC (pvs.drop pl) (Fl.drop pl) ∧ ∀ r ∈ Fl.drop pl, RSh n N0 r := ⟨(Al.cut pl alC).2, fun r hr => hn5 r (List.mem_of_mem_drop hr)⟩
            refine ⟨S2, rfl, ⟨_, SqL.of hS2v⟩, fun D3' hD3' => lc_list (xs := pvs.drop pl) (fun i H' => ∃ Fc : List (List Int), Cmp rF HC D3' Fc H' ∧ Fc.length = i ∧ ∀ r ∈ Fc, RSh n N1 r) ⟨[], Cmp.start hD3', rfl, fun _ h => nomatch h⟩ (fun i H' hi ⟨_, c, _⟩ => SqL.of (c.fe.k hS2v)) (fun i x H' hx ⟨Fc, c, hcl, hcn⟩ => ?_) (fun HD ⟨F3, c3, hl3, hn3⟩ => ?_)⟩
            · obtain ⟨q9, r9, hq9, hr9, hx9⟩ := rowat alCd hx
              subst hx9
              have hq9v := c.fe.k (id hq9)
              refine ⟨rfl, ?_⟩
              refine iteT (B := ∃ Fc : List (List Int), Cmp rF HC D3' Fc H' ∧ Fc.length = i + 1 ∧ ∀ r ∈ Fc, RSh n N1 r) ?_
              refine ⟨_, rfl, q9, rfl, ⟨_, SqT.of hq9v⟩, fun D3 hD3 => lc_tup (xs := r9.map V.int) (fun j H2 => ∃ l : List Int, Cmp rI H' D3 l H2 ∧ l.length = j ∧ ∀ x ∈ l, x.natAbs ≤ N1) ⟨[], Cmp.start hD3, rfl, fun _ h => nomatch h⟩ (fun j H2 hj ⟨_, c4, _⟩ => SqT.of (c4.fe.k hq9v)) (fun j y H2 hy ⟨l, c4, hl⟩ => ?_) (fun H7 ⟨l, c4, hl⟩ => ?_)⟩
              · obtain ⟨cc, hcc, rfl⟩ := intat hy
                refine ⟨rfl, ?_⟩
                refine iteT (B := ∃ l : List Int, Cmp rI H' D3 l H2 ∧ l.length = j + 1 ∧ ∀ x ∈ l, x.natAbs ≤ N1) ?_
                have hccb := hr9.2 cc (List.mem_of_getElem? hcc)
                have hr9l := hr9.1
                exact ⟨_, rfl, _, rfl, _, _, rfl, rfl, c4.addE hl (by show (cc - (1 + (ls : Int))).natAbs ≤ N1; omega) (by have := (List.getElem?_eq_some_iff.mp hy).1; rw [List.length_map, hr9l] at this; omega)⟩
              · obtain ⟨_, ys, eD, hD3v, aly⟩ := c4.rl
                cases eD
                have hyi := aly.ints
                rw [List.length_map, hr9.1] at hl
                refine ⟨D3, _, rfl, .inl ⟨SqL.of hD3v, fun U hU => ?_⟩⟩
                have gU := Fe.new (o := .tup ys) hU
                exact c.addF hcl hcn (by have := (List.getElem?_eq_some_iff.mp hx).1; rw [List.length_drop] at this; omega) (c4.fe.trans gU) hl (by rw [upd_same, hyi])
            · obtain ⟨_, v3, eD3, hv3, al3⟩ := c3.rl
              cases eD3
              rw [List.length_drop, hpvl, hl5] at hl3
              have up : ∀ {r : List Int}, RSh n N1 r → RSh n (10 ^ 40) r := fun h => hN1 ▸ h
              have hFln : FlSh rows.length n Fl := ⟨hl5, fun r hr => up ((hn5 r hr).up (by omega))⟩
              have hF1 : FlSh rows.length n F1 := ⟨by rw [hl1, hpvl, hl5], fun r hr => up (hn1 r hr)⟩
              have hF2 : FlSh rows.length n F2 := ⟨by rw [hl2, hpvl, hl5], fun r hr => up (hn2 r hr)⟩
              have hF3 : FlSh rows.length n (Fl.take pl ++ F3) := ⟨by rw [List.length_append, List.length_take, hl3, hl5]; omega, fun r hr => (List.mem_append.mp hr).elim (fun h => up ((hn5 r (List.mem_of_mem_take h)).up (by omega))) (fun h => up (hn3 r h))⟩
              refine ⟨S1, D3', _, _, rfl, rfl, c3.fe.k (gS2.k hS1v), hv3, by rw [al3.len, hl3, sizeLine_eq, List.length_take]; omega, fun S3 hS3 => ?_⟩
              have gS3 := Fe.new (o := .lst (pvs.take pl ++ v3)) hS3
              have f8A : Fe H8 HA := f59.trans c2.fe
              have fAD : Fe HA (upd HD S3 (.lst (pvs.take pl ++ v3))) := ((gS1.trans gS2).trans c3.fe).trans gS3
              have hS3v : (upd HD S3 (.lst (pvs.take pl ++ v3))) S3 = some (.lst (pvs.take pl ++ v3)) := upd_same
              have alE3 : Al rF (upd HD S3 (.lst (pvs.take pl ++ v3))) (pvs.take pl ++ v3) (Fl.take pl ++ F3) := Al.app (Al.mo (c3.fe.trans gS3) (Al.cut pl alC).1) (Al.mo gS3 al3)
              generalize upd HD S3 (.lst (pvs.take pl ++ v3)) = HE at fAD hS3v alE3 ⊢
              generalize pvs.take pl ++ v3 = w3 at hS3v alE3 ⊢
              have alE0 := Al.mo fAD alA
              have alE1 := Al.mo (c2.fe.trans fAD) al1
              have alE2 := Al.mo fAD al2
              -- the four tuples
              refine ⟨_, rfl, P0a, _, rfl, .inl ⟨SqL.of (fAD.k hPA), fun T0 hT0 => ?_⟩⟩
              have g0 := Fe.new (o := .tup pvs) hT0
              refine ⟨_, rfl, D2, _, rfl, .inl ⟨SqL.of (g0.k (fAD.k (c2.fe.k hv1))), fun T1 hT1 => ?_⟩⟩
              have g1 := Fe.new (o := .tup v1) hT1
              refine ⟨_, rfl, D2', _, rfl, .inl ⟨SqL.of (g1.k (g0.k (fAD.k hv2))), fun T2 hT2 => ?_⟩⟩
              have g2 := Fe.new (o := .tup v2) hT2
              refine ⟨_, rfl, S3, _, rfl, .inl ⟨SqL.of (g2.k (g1.k (g0.k hS3v))), fun T3 hT3 => ?_⟩⟩
              have g3 := Fe.new (o := .tup w3) hT3
              refine ⟨by show 4 ≤ sizeLine; decide, fun Z hZ => ?_⟩
              have gZ := Fe.new (o := .lst [.ref T0, .ref T1, .ref T2, .ref T3]) hZ
              have h01 : Fe HE _ := (((g0.trans g1).trans g2).trans g3).trans gZ
              have h8E := (f8A.trans fAD).trans h01
              refine kk Z _ [Fl, F1, F2, Fl.take pl ++ F3] _ (f08.trans h8E.to) (P8.keep h8E) ((P8.keep ((f8A.trans fAD).trans (((g0.trans g1).trans g2).trans g3))).nw hZ) upd_same ?_ ?_
              · refine .cons ⟨T0, _, rfl, (((g1.trans g2).trans g3).trans gZ).k upd_same, Al.mo h01 alE0⟩ (.cons ⟨T1, _, rfl, ((g2.trans g3).trans gZ).k upd_same, Al.mo h01 alE1⟩ (.cons ⟨T2, _, rfl, (g3.trans gZ).k upd_same, Al.mo h01 alE2⟩ (.cons ⟨T3, _, rfl, gZ.k upd_same, Al.mo h01 alE3⟩ .nil)))
              · intro F hF
                simp only [List.mem_cons, List.not_mem_nil, or_false] at hF
                rcases hF with rfl | rfl | rfl | rfl
                · exact hFln
                · exact hF1
                · exact hF2
                · exact hF3
end
end Fm
/-! floors bent -/
namespace Fm
open PySem L2
def IsCell (H : Hp) (x : V) : Prop := ∃ c, rCell H x c
def IsRow (H : Hp) (x : V) : Prop := ∃ o, rFrow H x o
def IsTh (H : Hp) (x : V) : Prop := ∃ th, rThing H x th
def IsRowT (H : Hp) (v : V) : Prop := ∃ a xs, v = .ref a ∧ H a = some (.tup xs) ∧ ∀ x ∈ xs, IsCell H x
def IsThT (H : Hp) (v : V) : Prop := ∃ a xs, v = .ref a ∧ H a = some (.tup xs) ∧ ∀ x ∈ xs, IsRowT H x
theorem IsCell.mo {M : List Addr} {H H' : Hp} {v : V} (h : IsCell H v) (f : Fx M H H') : IsCell H' v := h.elim fun c h => ⟨c, h.mo f⟩
theorem IsRowT.mo {M : List Addr} {H H' : Hp} {v : V} (h : IsRowT H v) (f : Fx M H H') : IsRowT H' v := by
  obtain ⟨a, xs, e, h1, h2⟩ := h
  exact ⟨a, xs, e, f.tups _ _ h1, fun x hx => (h2 x hx).mo f⟩
theorem IsThT.mo {M : List Addr} {H H' : Hp} {v : V} (h : IsThT H v) (f : Fx M H H') : IsThT H' v := by
  obtain ⟨a, xs, e, h1, h2⟩ := h
  exact ⟨a, xs, e, f.tups _ _ h1, fun x hx => (h2 x hx).mo f⟩
theorem IsTh.fe {H H' : Hp} {v : V} (h : IsTh H v) (f : Fe H H') : IsTh H' v := h.elim fun c h => ⟨c, h.fe f⟩
theorem al_ex {α : Type} {H : Hp} (r : Hp → V → α → Prop) : ∀ {xs : List V}, (∀ x ∈ xs, ∃ y, r H x y) → ∃ l, Paired (r H) xs l
  | [], _ => ⟨[], .nil⟩
  | x :: xs, h => by
    obtain ⟨y, hy⟩ := h x List.mem_cons_self
    obtain ⟨l, hl⟩ := al_ex r (xs := xs) fun x hx => h x (List.mem_cons_of_mem _ hx)
    exact ⟨y :: l, .cons hy hl⟩
theorem IsRowT.row {H : Hp} {v : V} (h : IsRowT H v) : IsRow H v := by
  obtain ⟨a, xs, rfl, h1, h2⟩ := h
  obtain ⟨l, hl⟩ := al_ex rCell (H := H) h2
  exact ⟨_, .tup h1 hl⟩
theorem th_of {H : Hp} {a : Addr} {xs : List V} (h1 : H a = some (.tup xs)) (h2 : ∀ x ∈ xs, IsRow H x) : IsTh H (.ref a) := by
  obtain ⟨l, hl⟩ := al_ex rFrow (H := H) h2
  exact ⟨_, .tup h1 hl⟩
theorem IsThT.th {H : Hp} {v : V} (h : IsThT H v) : IsTh H v := by
  obtain ⟨a, xs, rfl, h1, h2⟩ := h
  exact th_of h1 fun x hx => (h2 x hx).row
theorem rF.rowT {H : Hp} {v : V} {r : List Int} (h : rF H v r) : IsRowT H v := by
  obtain ⟨a, rfl, h1⟩ := h
  refine ⟨a, _, rfl, h1, fun x hx => ?_⟩
  obtain ⟨i, _, rfl⟩ := List.mem_map.mp hx
  exact ⟨_, .int i⟩
theorem cutV_le (xs : List V) (lo hi : Option Int) : (cutV xs lo hi).length ≤ xs.length := cutV_length xs lo hi
def spBent : Sp := fun vs H Q _ => ∃ (p g fa : Addr) (xs : List V) (F : List (List Int)) (k n : Nat), vs = [.ref p, .ref fa] ∧ Pl H p g ∧ H fa = some (.tup xs) ∧ Al rF H xs F ∧ FlSh k n F ∧ 1 ≤ k ∧ k ≤ 2000 ∧ 1 ≤ n ∧ n ≤ 4000 ∧
  ∀ (L : Addr) (rvs : List V) (H' : Hp), Fx [p, g] H H' → Pl H' p g → L ∉ [p, g] → H' L = some (.lst rvs) → (∀ x ∈ rvs, IsTh H' x) → 0 < rvs.length → rvs.length ≤ 100 → Q (.ref L) H'
/-- the list that grows -/
structure RI (HB : Hp) (L : Addr) (i : Nat) (H' : Hp) : Prop where
  fe : Fe HB H'
  new : HB L = none
  ex : ∃ rvs, H' L = some (.lst rvs) ∧ (∀ x ∈ rvs, IsTh HB x ∨ IsThT H' x) ∧ rvs.length = i
theorem RI.go {HB : Hp} {L : Addr} {i : Nat} {H' H'' : Hp} (h : RI HB L i H') (f : Fe H' H'') : RI HB L i H'' := by
  obtain ⟨rvs, h1, h2, h3⟩ := h.ex
  exact ⟨h.fe.trans f, h.new, rvs, f.k h1, fun x hx => (h2 x hx).imp id fun z => z.mo f, h3⟩
theorem RI.add {HB : Hp} {L : Addr} {i : Nat} {H' : Hp} {rvs : List V} {v : V} (h : RI HB L i H') (hL : H' L = some (.lst rvs)) (hv : IsThT H' v) : RI HB L (i + 1) (upd H' L (.lst (rvs ++ [v]))) := by
  obtain ⟨rvs', h1, h2, h3⟩ := h.ex
  rw [hL] at h1; cases h1
  have f : Fx [L] H' (upd H' L (.lst (rvs ++ [v]))) := Fx.put hL (List.mem_singleton.mpr rfl) (fun _ z => nomatch z)
  refine ⟨h.fe.mut h.new, h.new, rvs ++ [v], upd_same, fun x hx => ?_, by rw [List.length_append, h3]; rfl⟩
  rcases List.mem_append.mp hx with hx | hx
  · exact (h2 x hx).imp id fun z => z.mo f
  · rw [List.mem_singleton.mp hx]; exact .inr (hv.mo f)
theorem RI.len {HB : Hp} {L : Addr} {i : Nat} {H' : Hp} {rvs : List V} (h : RI HB L i H') (hL : H' L = some (.lst rvs)) : rvs.length = i := by
  obtain ⟨rvs', h1, h2, h3⟩ := h.ex
  rw [hL] at h1; cases h1; exact h3
theorem mem_cat {xs ys : List V} {P : V → Prop} (h1 : ∀ x ∈ xs, P x) (h2 : ∀ x ∈ ys, P x) : ∀ x ∈ xs ++ ys, P x := fun x hx => (List.mem_append.mp hx).elim (h1 x) (h2 x)
theorem mem_cut {xs : List V} {lo hi : Option Int} {P : V → Prop} (h : ∀ x ∈ xs, P x) : ∀ x ∈ cutV xs lo hi, P x := fun x hx => h x (cutV_mem hx)
theorem mem_one {v : V} {P : V → Prop} (h : P v) : ∀ x ∈ [v], P x := fun x hx => by rw [List.mem_singleton.mp hx]; exact h
theorem log_ok {i : Int} (h : i.natAbs ≤ 10 ^ 40) : i.natAbs.log2 < 1920 := by
  by_cases q : i.natAbs = 0
  · rw [q]; decide
  · exact (Nat.log2_lt q).mpr (Nat.lt_of_le_of_lt h (by decide +kernel))
section
variable {P : Program} {w : World} {K : PySem.W.Frag} {g : Str → Option Value} {base : Heap}
theorem ok_law_bent (T : Txt K g) : FnOk P w K g base CX0 2 T.d_law_bent.f T.d_law_bent.fd P_law_bent spBent := by
  refine T.d_law_bent.F.ok sc_law_bent (fun vs H Q E h => ?_) (fun cdv A outer s H vs Q E hr h => ?_)
  · obtain ⟨_, _, _, _, _, _, _, rfl, _⟩ := h
    rfl
  · obtain ⟨p, g, fa, xs, F, k, n, rfl, P0, hfa0, al0, ⟨hFk, hFn⟩, hk1, hk2, hn1, hn2, kk⟩ := h
    have hu := hu_of hr
    refine ⟨_, (pss_cons (ps_set (i := 2) sc_law_bent.nd rfl (by first | exact Or.inl rfl | exact Or.inr rfl) (pe_call (ok_law_draw T) (hr.mono (by decide)) rfl T.d_law_draw.mg T.d_law_draw.kp T.d_law_draw.b .nil pass0 (pa_cons (pv 0) (pa_cons (pe_callB (kc_len (K := K) rfl) (by rfl) T.z_len PySem.boot_len (pa_cons (pv 1) pa_nil)) pa_nil))))
    (pss_cons (ps_set (i := 3) sc_law_bent.nd rfl (by first | exact Or.inl rfl | exact Or.inr rfl) (pe_call (ok_law_draw T) (hr.mono (by decide)) rfl T.d_law_draw.mg T.d_law_draw.kp T.d_law_draw.b .nil pass0 (pa_cons (pv 0) (pa_cons (pe_callB (kc_len (K := K) rfl) (by rfl) T.z_len PySem.boot_len (pa_cons (pe_ix (kx_tup (K := K) rfl) (pv 1) (pv 2) (fun _ _ => rfl)) pa_nil)) pa_nil))))
    (pss_cons (ps_set (i := 4) sc_law_bent.nd rfl (by first | exact Or.inl rfl | exact Or.inr rfl) (pe_ix (kx_tup (K := K) rfl) (pe_ix (kx_tup (K := K) rfl) (pv 1) (pv 2) (fun _ _ => rfl)) (pv 3) (fun _ _ => rfl)))
    (pss_cons (ps_set (i := 5) sc_law_bent.nd rfl (by first | exact Or.inl rfl | exact Or.inr rfl) (pe_lst (pa_cons (pv 1) (pa_cons (pe_callTy (kc_list (K := K) rfl) (by rfl) T.z_list (by decide +kernel) (pa_cons (pv 1) pa_nil)) (pa_cons (pe_slice kl_tupB (pv 1) po_none (po_some (pe_un un_neg pe_int))) (pa_cons (pe_op ko_catB (pv 1) (pe_slice kl_tupB (pv 1) (po_some (pe_un un_neg pe_int)) po_none)) (pa_cons (pe_op ko_catB (pe_op ko_catB (pe_slice kl_tupB (pv 1) po_none (po_some (pv 2))) (pe_tup (pa_cons (pe_callTy (kc_list (K := K) rfl) (by rfl) T.z_list (by decide +kernel) (pa_cons (pe_ix (kx_tup (K := K) rfl) (pv 1) (pv 2) (fun _ _ => rfl)) pa_nil)) pa_nil))) (pe_slice kl_tupB (pv 1) (po_some (pe_op op_add (pv 2) pe_int)) po_none)) (pa_cons pe_non (pa_cons (pe_tup pa_nil) pa_nil)))))))))
    (pss_cons (ps_for PassesOwn.never rfl (ki_list (K := K) rfl (pe_lst (pa_cons (pe_op op_add (pv 4) pe_int) (pa_cons (pe_op op_sub (pv 4) pe_int) (pa_cons (pe_op op_add (pv 4) pe_int) (pa_cons (pe_op op_sub (pv 4) pe_int) (pa_cons pe_non (pa_cons (pe_cmpR op_eq (pv 4) pe_int (nomark _)) (pa_cons (pe_callTy call_str_int (by rfl) T.z_str (by decide +kernel) (pa_cons (pv 4) pa_nil)) (pa_cons (pe_tup (pa_cons (pv 4) pa_nil)) (pa_cons pe_int pa_nil))))))))))) (pg_name (i := 6) sc_law_bent.nd rfl (by first | exact Or.inl rfl | exact Or.inr rfl))
      (pss_one (ps_expr (ke_bm (K := K) rfl PySem.F.plainAttrs_list PySem.F.slot_list_append PySem.F.type_list_append mt_append (pv 5) (pa_cons (pe_op ko_catB (pe_op ko_catB (pe_slice kl_tupB (pv 1) po_none (po_some (pv 2))) (pe_tup (pa_cons (pe_op ko_catB (pe_op ko_catB (pe_slice kl_tupB (pe_ix (kx_tup (K := K) rfl) (pv 1) (pv 2) (fun _ _ => rfl)) po_none (po_some (pv 3))) (pe_tup (pa_cons (pv 6) pa_nil))) (pe_slice kl_tupB (pe_ix (kx_tup (K := K) rfl) (pv 1) (pv 2) (fun _ _ => rfl)) (po_some (pe_op op_add (pv 3) pe_int)) po_none)) pa_nil))) (pe_slice kl_tupB (pv 1) (po_some (pe_op op_add (pv 2) pe_int)) po_none)) pa_nil)))))
    (pss_cons (ps_expr (ke_bm (K := K) rfl PySem.F.plainAttrs_list PySem.F.slot_list_append PySem.F.type_list_append mt_append (pv 5) (pa_cons (pe_op ko_catB (pe_op ko_catB (pe_slice kl_tupB (pv 1) po_none (po_some (pv 2))) (pe_tup (pa_cons (pe_slice kl_tupB (pe_ix (kx_tup (K := K) rfl) (pv 1) (pv 2) (fun _ _ => rfl)) po_none (po_some (pe_un un_neg pe_int))) pa_nil))) (pe_slice kl_tupB (pv 1) (po_some (pe_op op_add (pv 2) pe_int)) po_none)) pa_nil)))
    (pss_cons (ps_expr (ke_bm (K := K) rfl PySem.F.plainAttrs_list PySem.F.slot_list_append PySem.F.type_list_append mt_append (pv 5) (pa_cons (pe_op ko_catB (pe_op ko_catB (pe_slice kl_tupB (pv 1) po_none (po_some (pv 2))) (pe_tup (pa_cons (pe_op ko_catB (pe_ix (kx_tup (K := K) rfl) (pv 1) (pv 2) (fun _ _ => rfl)) (pe_tup (pa_cons pe_int pa_nil))) pa_nil))) (pe_slice kl_tupB (pv 1) (po_some (pe_op op_add (pv 2) pe_int)) po_none)) pa_nil)))
    (pss_cons (ps_expr (ke_bm (K := K) rfl PySem.F.plainAttrs_list PySem.F.slot_list_append PySem.F.type_list_append mt_append (pv 5) (pa_cons (pe_op ko_catB (pe_tup (pa_cons (pe_op ko_catB (pe_tup (pa_cons (pe_op op_add (pe_ix (kx_tup (K := K) rfl) (pe_ix (kx_tup (K := K) rfl) (pv 1) pe_int (fun _ _ => rfl)) pe_int (fun _ _ => rfl)) pe_int) pa_nil)) (pe_slice kl_tupB (pe_ix (kx_tup (K := K) rfl) (pv 1) pe_int (fun _ _ => rfl)) (po_some pe_int) po_none)) pa_nil)) (pe_slice kl_tupB (pv 1) (po_some pe_int) po_none)) pa_nil)))
    (pss_cons (ps_expr (ke_bm (K := K) rfl PySem.F.plainAttrs_list PySem.F.slot_list_append PySem.F.type_list_append mt_append (pv 5) (pa_cons (ke_revT (K := K) rfl (pv 1)) pa_nil)))
    (pss_one (ps_ret (pv 5)))))))))))), ?_⟩
    have hxl : xs.length = k := al0.len.trans hFk
    refine ⟨_, rfl, _, rfl, fa, _, rfl, .inr (SqT.of hfa0), p, g, k, by rw [hxl]; rfl, P0, by omega, by omega, fun pl H1 f1 P1 hpl => ?_⟩
    obtain ⟨r, hr1⟩ : ∃ r, F[pl]? = some r := ⟨_, List.getElem?_eq_getElem (by omega)⟩
    obtain ⟨hrn, hrb⟩ := hFn r (List.mem_of_getElem? hr1)
    obtain ⟨rv, hrv, ⟨ra, rfl, hra0⟩⟩ := al0.at hr1
    have hfa1 := f1.tups _ _ hfa0
    have hra1 := f1.tups _ _ hra0
    refine ⟨_, rfl, _, rfl, _, rfl, fa, _, _, _, rfl, rfl, SqT.of hfa1, atI_nat hrv, ra, _, rfl, .inr (SqT.of hra1), p, g, n, by rw [List.length_map, hrn]; rfl, P1, by omega, by omega, fun at_ H2 f2 P2 hat => ?_⟩
    have hfa := f2.tups _ _ hfa1
    have hra := f2.tups _ _ hra1
    have f02 := f1.trans f2
    have al := Al.mo f02 al0
    obtain ⟨cell, hcell⟩ : ∃ c, r[at_]? = some c := ⟨_, List.getElem?_eq_getElem (by omega)⟩
    have hcb := hrb cell (List.mem_of_getElem? hcell)
    refine ⟨_, rfl, _, rfl, fa, _, _, _, rfl, rfl, SqT.of hfa, atI_nat hrv, _, rfl, ra, _, _, _, rfl, rfl, SqT.of hra, atI_nat (by rw [List.getElem?_map, hcell]; rfl), ?_⟩
    clear f1 f2 P0 P1 hfa0 hfa1 hra0 hra1 al0
    have hrows : ∀ x ∈ xs, IsRowT H2 x := fun x hx => by
      obtain ⟨i, hi⟩ := List.mem_iff_getElem?.mp hx
      obtain ⟨r, _, h⟩ := al.get hi
      exact rF.rowT h
    have hcells : ∀ x ∈ r.map V.int, IsCell H2 x := fun x hx => by
      obtain ⟨i, _, rfl⟩ := List.mem_map.mp hx
      exact ⟨_, .int i⟩
    have hrl : (r.map V.int).length = n := by rw [List.length_map, hrn]
    generalize r.map V.int = rxs at hra hcells hrl
    -- the list
    refine ⟨_, rfl, _, rfl, fa, _, rfl, .inr (SqT.of hfa), fun L1 hL1 => ?_⟩
    have g1 := Fe.new (o := .lst xs) hL1
    have L1v : (upd H2 L1 (.lst xs)) L1 = some (.lst xs) := upd_same
    generalize upd H2 L1 (.lst xs) = H3 at g1 L1v ⊢
    have hL1n : True := trivial
    -- floor[:-1]
    refine ⟨_, rfl, _, rfl, _, rfl, fa, xs, rfl, g1.k hfa, fun v2 H4 e4 h4 => ?_⟩
    have e24 := g1.trans e4
    -- floor + floor[-1:]
    refine ⟨_, rfl, _, rfl, _, rfl, _, rfl, fa, xs, rfl, e24.k hfa, fun v3 H5 e5 h5 => ?_⟩
    have e25 := e24.trans e5
    have c5 := cutV_le xs (some (-1)) none
    refine ⟨fa, v3, _, _, rfl, rfl, e25.k hfa, h5, by rw [sizeLine_eq]; omega, fun v3' H6 e6 h6 => ?_⟩
    have e26 := e25.trans e6
    -- with a list for a row
    refine ⟨_, rfl, _, rfl, _, rfl, fa, xs, rfl, e26.k hfa, fun v4 H7 e7 h7 => ?_⟩
    have e27 := e26.trans e7
    refine ⟨_, rfl, _, rfl, fa, _, _, _, rfl, rfl, SqT.of (e27.k hfa), atI_nat hrv, ra, _, rfl, .inr (SqT.of (e27.k hra)), fun L2 hL2 => ?_⟩
    have g8 := Fe.new (o := .lst rxs) hL2
    have L2v : (upd H7 L2 (.lst rxs)) L2 = some (.lst rxs) := upd_same
    generalize upd H7 L2 (.lst rxs) = H8 at g8 L2v ⊢
    have e28 := e27.trans g8
    refine ⟨by show 1 ≤ sizeLine; decide, fun U1 hU1 => ?_⟩
    have g9 := Fe.new (o := .tup [.ref L2]) hU1
    have U1v : (upd H8 U1 (.tup [.ref L2])) U1 = some (.tup [.ref L2]) := upd_same
    generalize upd H8 U1 (.tup [.ref L2]) = H9 at g9 U1v ⊢
    have e29 := e28.trans g9
    have c7 := cutV_le xs none (some (pl : Int))
    refine ⟨v4, U1, _, _, rfl, rfl, (g8.trans g9).k h7, U1v, by rw [sizeLine_eq]; simp only [List.length_singleton]; omega, fun v5 HA eA hA => ?_⟩
    have e2A := e29.trans eA
    refine ⟨_, rfl, _, rfl, _, _, rfl, rfl, _, rfl, fa, xs, rfl, e2A.k hfa, fun v6 HB eB hB => ?_⟩
    have e2B := e2A.trans eB
    have cB := cutV_le xs (some ((pl : Int) + 1)) none
    refine ⟨v5, v6, _, _, rfl, rfl, eB.k hA, hB, by rw [List.length_append, sizeLine_eq]; simp only [List.length_singleton]; omega, fun v7 HC eC hC => ?_⟩
    have e2C := e2B.trans eC
    refine ⟨Nat.zero_le _, fun U2 hU2 => ?_⟩
    have gD := Fe.new (o := .tup []) hU2
    have U2v : (upd HC U2 (.tup [])) U2 = some (.tup []) := upd_same
    generalize upd HC U2 (.tup []) = HD at gD U2v ⊢
    have e2D := e2C.trans gD
    have hrowsD : ∀ x ∈ xs, IsRowT HD x := fun x hx => (hrows x hx).mo e2D
    have thD : ∀ {v : Addr} {ys : List V}, HD v = some (.tup ys) → (∀ x ∈ ys, IsRowT HD x) → IsTh HD (.ref v) := fun h1 h2 => th_of h1 fun x hx => (h2 x hx).row
    have i0 : IsTh HD (.ref fa) := thD (e2D.k hfa) hrowsD
    have i1 : IsTh HD (.ref L1) := ⟨_, .lst (((((((e4.trans e5).trans e6).trans e7).trans g8).trans g9).trans ((eA.trans eB).trans (eC.trans gD))).k L1v)⟩
    have i2 : IsTh HD (.ref v2) := thD ((((((e5.trans e6).trans e7).trans g8).trans g9).trans ((eA.trans eB).trans (eC.trans gD))).k h4) (mem_cut hrowsD)
    have i3 : IsTh HD (.ref v3') := thD ((((e7.trans g8).trans g9).trans ((eA.trans eB).trans (eC.trans gD))).k h6) (mem_cat hrowsD (mem_cut hrowsD))
    have i4 : IsTh HD (.ref v7) := th_of (gD.k hC) (mem_cat (mem_cat (mem_cut fun x hx => (hrowsD x hx).row) (mem_one ⟨_, .lst ((g9.trans ((eA.trans eB).trans (eC.trans gD))).k L2v)⟩)) (mem_cut fun x hx => (hrowsD x hx).row))
    have i5 : IsTh HD .non := ⟨_, .non⟩
    have i6 : IsTh HD (.ref U2) := thD U2v (fun _ h => nomatch h)
    refine ⟨by show 7 ≤ sizeLine; decide, fun L hL => ?_⟩
    have gL := Fe.new (o := .lst [.ref fa, .ref L1, .ref v2, .ref v3', .ref v7, .non, .ref U2]) hL
    have R0 : RI HD L 7 (upd HD L (.lst [.ref fa, .ref L1, .ref v2, .ref v3', .ref v7, .non, .ref U2])) := ⟨gL, hL, _, upd_same, fun x hx => by
      simp only [List.mem_cons, List.not_mem_nil, or_false] at hx
      rcases hx with rfl | rfl | rfl | rfl | rfl | rfl | rfl
      · exact .inl i0
      · exact .inl i1
      · exact .inl i2
      · exact .inl i3
      · exact .inl i4
      · exact .inl i5
      · exact .inl i6, rfl⟩
    have nL := (P2.keep e2D).nw hL
    generalize upd HD L (.lst [.ref fa, .ref L1, .ref v2, .ref v3', .ref v7, .non, .ref U2]) = HE at R0 ⊢
    clear i0 i1 i2 i3 i4 i5 i6 gL hL thD U2v gD L1v L2v U1v g1 h4 h5 h6 h7 hA hB hC e4 e5 e6 e7 g8 g9 eA eB eC
    have e2E := e2D.trans R0.fe
    -- for other in [..]
    refine ⟨_, rfl, _, _, rfl, rfl, _, rfl, _, _, rfl, rfl, _, rfl, _, _, rfl, rfl, _, rfl, _, _, rfl, rfl, _, rfl, rfl, _, rfl, _, rfl, log_ok hcb, _, rfl, by show 1 ≤ sizeLine; decide, fun Uc hUc => ?_⟩
    have gc := Fe.new (o := .tup [.int cell]) hUc
    have Ucv : (upd HE Uc (.tup [.int cell])) Uc = some (.tup [.int cell]) := upd_same
    generalize upd HE Uc (.tup [.int cell]) = HF at gc Ucv ⊢
    refine ⟨by show 9 ≤ sizeLine; decide, fun O hO => ?_⟩
    generalize hovs : ([.int (cell + 1), .int (cell - 1), .int (cell + 5), .int (cell - 7), .non, .bl (decide (V.int cell = V.int 1)), .str (toString cell), .ref Uc, .int 0] : List V) = ovs
    have hoc : ∀ x ∈ ovs, IsCell HF x := fun x hx => by
      rw [← hovs] at hx
      simp only [List.mem_cons, List.not_mem_nil, or_false] at hx
      rcases hx with rfl | rfl | rfl | rfl | rfl | rfl | rfl | rfl | rfl
      · exact ⟨_, .int _⟩
      · exact ⟨_, .int _⟩
      · exact ⟨_, .int _⟩
      · exact ⟨_, .int _⟩
      · exact ⟨_, .non⟩
      · exact ⟨_, .bl _⟩
      · exact ⟨_, .str _⟩
      · exact ⟨_, .tup Ucv⟩
      · exact ⟨_, .int _⟩
    have hol : ovs.length = 9 := by rw [← hovs]; rfl
    have gO := Fe.new (o := .lst ovs) hO
    have hOv : (upd HF O (.lst ovs)) O = some (.lst ovs) := upd_same
    have R1 := (R0.go gc).go gO
    have hOn : O ≠ L := fun z => by
      obtain ⟨rvs, h1, _⟩ := (R0.go gc).ex
      rw [← z, hO] at h1; cases h1
    generalize upd HF O (.lst ovs) = HG at gO hOv R1 ⊢
    have e2G := (e2E.trans gc).trans gO
    have hocG : ∀ x ∈ ovs, IsCell HG x := fun x hx => (hoc x hx).mo gO
    refine ⟨O, rfl, ⟨_, SqL.of hOv⟩, for_lst (xs := ovs) (fun i σ' H' => ∃ o6 : Option V, σ' = [some (.ref p), some (.ref fa), some (.int (pl : Int)), some (.int (at_ : Int)), some (.int cell), some (.ref L), o6] ∧ RI HD L (7 + i) H' ∧ Fx [L] HG H') ⟨_, rfl, R1, Fx.refl _ _⟩ (fun i σ' H' _ ⟨_, _, _, f⟩ => f.keep _ _ (fun z => hOn (List.mem_singleton.mp z)) hOv) ?_ ?_⟩
    · rintro i x σ' H' hx ⟨o6, rfl, R, f⟩
      have hxc := (hocG x (List.mem_of_getElem? hx)).mo f
      have hil := (List.getElem?_eq_some_iff.mp hx).1
      obtain ⟨rvs, hLv, _, hrl'⟩ := R.ex
      have eD := e2D.trans R.fe
      refine ⟨_, rfl, .inl ⟨rfl, _, SqL.of hLv⟩, ?_⟩
      -- floor[:place]
      refine ⟨_, rfl, _, rfl, _, rfl, fa, xs, rfl, eD.k hfa, fun w1 H3 e3 h3 => ?_⟩
      have d3 := eD.trans e3
      -- floor[place][:at] + (other,)
      refine ⟨_, rfl, _, rfl, fa, _, _, _, rfl, rfl, SqT.of (d3.k hfa), atI_nat hrv, _, rfl, _, rfl, ra, rxs, rfl, d3.k hra, fun w2 H4 e4 h4 => ?_⟩
      have d4 := d3.trans e4
      refine ⟨_, rfl, by show 1 ≤ sizeLine; decide, fun W3 hW3 => ?_⟩
      have g5 := Fe.new (o := .tup [x]) hW3
      have W3v : (upd H4 W3 (.tup [x])) W3 = some (.tup [x]) := upd_same
      generalize upd H4 W3 (.tup [x]) = H5 at g5 W3v ⊢
      have c4 := cutV_le rxs none (some (at_ : Int))
      refine ⟨w2, W3, _, _, rfl, rfl, g5.k h4, W3v, by rw [sizeLine_eq]; simp only [List.length_singleton]; omega, fun w4 H6 e6 h6 => ?_⟩
      have d6 := (d4.trans g5).trans e6
      -- floor[place][at + 1:]
      refine ⟨_, rfl, _, rfl, fa, _, _, _, rfl, rfl, SqT.of (d6.k hfa), atI_nat hrv, _, rfl, _, _, rfl, rfl, _, rfl, ra, rxs, rfl, d6.k hra, fun w5 H7 e7 h7 => ?_⟩
      have d7 := d6.trans e7
      have c7 := cutV_le rxs (some ((at_ : Int) + 1)) none
      refine ⟨w4, w5, _, _, rfl, rfl, e7.k h6, h7, by rw [List.length_append, sizeLine_eq]; simp only [List.length_singleton]; omega, fun w6 H8 e8 h8 => ?_⟩
      have d8 := d7.trans e8
      refine ⟨by show 1 ≤ sizeLine; decide, fun W7 hW7 => ?_⟩
      have g9 := Fe.new (o := .tup [.ref w6]) hW7
      have W7v : (upd H8 W7 (.tup [.ref w6])) W7 = some (.tup [.ref w6]) := upd_same
      generalize upd H8 W7 (.tup [.ref w6]) = H9 at g9 W7v ⊢
      have d9 := d8.trans g9
      have c3 := cutV_le xs none (some (pl : Int))
      have e39 := ((((e4.trans g5).trans e6).trans e7).trans e8).trans g9
      refine ⟨w1, W7, _, _, rfl, rfl, e39.k h3, W7v, by rw [sizeLine_eq]; simp only [List.length_singleton]; omega, fun w8 HA eA hA => ?_⟩
      have dA := d9.trans eA
      refine ⟨_, rfl, _, rfl, _, _, rfl, rfl, _, rfl, fa, xs, rfl, dA.k hfa, fun w9 HB eB hB => ?_⟩
      have cB := cutV_le xs (some ((pl : Int) + 1)) none
      refine ⟨w8, w9, _, _, rfl, rfl, eB.k hA, hB, by rw [List.length_append, sizeLine_eq]; simp only [List.length_singleton]; omega, fun w10 HC eC hC => ?_⟩
      have eall := (e3.trans e39).trans ((eA.trans eB).trans eC)
      have dC := eD.trans eall
      have hLC := eall.k hLv
      have hw6 : IsRowT HC (.ref w6) := ⟨w6, _, rfl, (g9.trans ((eA.trans eB).trans eC)).k h8, mem_cat (mem_cat (mem_cut fun x hx => (hcells x hx).mo dC) (mem_one (hxc.mo eall))) (mem_cut fun x hx => (hcells x hx).mo dC)⟩
      have hrowsC : ∀ x ∈ xs, IsRowT HC x := fun x hx => (hrows x hx).mo dC
      refine ⟨L, rvs, _, rfl, rfl, hLC, by rw [hrl', sizeLine_eq]; omega, _, rfl, ?_, (f.trans eall.to).trans (Fx.put hLC (List.mem_singleton.mpr rfl) (fun _ z => nomatch z))⟩
      exact (R.go eall).add hLC ⟨w10, _, rfl, hC, mem_cat (mem_cat (mem_cut hrowsC) (mem_one hw6)) (mem_cut hrowsC)⟩
    · rintro σ' H' ⟨o6, rfl, R, f⟩
      rw [hol] at R
      clear hOv hocG hoc gO R1 e2G
      -- a row without its last
      obtain ⟨rvs, hLv, _, hrl'⟩ := R.ex
      have eD := e2D.trans R.fe
      refine ⟨_, rfl, .inl ⟨rfl, _, SqL.of hLv⟩, ?_⟩
      refine ⟨_, rfl, _, rfl, _, rfl, fa, xs, rfl, eD.k hfa, fun w1 H3 e3 h3 => ?_⟩
      have d3 := eD.trans e3
      refine ⟨_, rfl, _, rfl, fa, _, _, _, rfl, rfl, SqT.of (d3.k hfa), atI_nat hrv, _, rfl, _, rfl, ra, rxs, rfl, d3.k hra, fun w2 H4 e4 h4 => ?_⟩
      have d4 := d3.trans e4
      refine ⟨by show 1 ≤ sizeLine; decide, fun W7 hW7 => ?_⟩
      have g9 := Fe.new (o := .tup [.ref w2]) hW7
      have W7v : (upd H4 W7 (.tup [.ref w2])) W7 = some (.tup [.ref w2]) := upd_same
      generalize upd H4 W7 (.tup [.ref w2]) = H9 at g9 W7v ⊢
      have d9 := d4.trans g9
      have c3 := cutV_le xs none (some (pl : Int))
      refine ⟨w1, W7, _, _, rfl, rfl, (e4.trans g9).k h3, W7v, by rw [sizeLine_eq]; simp only [List.length_singleton]; omega, fun w8 HA eA hA => ?_⟩
      have dA := d9.trans eA
      refine ⟨_, rfl, _, rfl, _, _, rfl, rfl, _, rfl, fa, xs, rfl, dA.k hfa, fun w9 HB eB hB => ?_⟩
      have cB := cutV_le xs (some ((pl : Int) + 1)) none
      refine ⟨w8, w9, _, _, rfl, rfl, eB.k hA, hB, by rw [List.length_append, sizeLine_eq]; simp only [List.length_singleton]; omega, fun w10 HC eC hC => ?_⟩
      have eall := ((e3.trans e4).trans g9).trans ((eA.trans eB).trans eC)
      have dC := eD.trans eall
      have hLC := eall.k hLv
      have hw2 : IsRowT HC (.ref w2) := ⟨w2, _, rfl, (g9.trans ((eA.trans eB).trans eC)).k h4, mem_cut fun x hx => (hcells x hx).mo dC⟩
      have hrowsC : ∀ x ∈ xs, IsRowT HC x := fun x hx => (hrows x hx).mo dC
      refine ⟨L, rvs, _, rfl, rfl, hLC, by rw [hrl', sizeLine_eq]; omega, ?_⟩
      have R2 := (R.go eall).add (v := .ref w10) hLC ⟨w10, _, rfl, hC, mem_cat (mem_cat (mem_cut hrowsC) (mem_one hw2)) (mem_cut hrowsC)⟩
      generalize upd HC L (.lst (rvs ++ [.ref w10])) = HX at R2 ⊢
      clear R hLv hrl' eD e3 h3 d3 e4 h4 d4 g9 W7v d9 c3 eA hA dA eB hB cB eC hC eall dC hLC hw2 hrowsC hW7 f
      -- a row with one more
      obtain ⟨rvs, hLv, _, hrl'⟩ := R2.ex
      have eD := e2D.trans R2.fe
      refine ⟨_, rfl, .inl ⟨rfl, _, SqL.of hLv⟩, ?_⟩
      refine ⟨_, rfl, _, rfl, _, rfl, fa, xs, rfl, eD.k hfa, fun w1 H3 e3 h3 => ?_⟩
      have d3 := eD.trans e3
      refine ⟨_, rfl, _, rfl, fa, _, _, _, rfl, rfl, SqT.of (d3.k hfa), atI_nat hrv, by show 1 ≤ sizeLine; decide, fun W2 hW2 => ?_⟩
      have g4 := Fe.new (o := .tup [.int 0]) hW2
      have W2v : (upd H3 W2 (.tup [.int 0])) W2 = some (.tup [.int 0]) := upd_same
      generalize upd H3 W2 (.tup [.int 0]) = H3' at g4 W2v ⊢
      refine ⟨ra, W2, _, _, rfl, rfl, (d3.trans g4).k hra, W2v, by rw [sizeLine_eq]; simp only [List.length_singleton]; omega, fun w2 H4 e4 h4 => ?_⟩
      have d4 := (d3.trans g4).trans e4
      refine ⟨by show 1 ≤ sizeLine; decide, fun W7 hW7 => ?_⟩
      have g9 := Fe.new (o := .tup [.ref w2]) hW7
      have W7v : (upd H4 W7 (.tup [.ref w2])) W7 = some (.tup [.ref w2]) := upd_same
      generalize upd H4 W7 (.tup [.ref w2]) = H9 at g9 W7v ⊢
      have d9 := d4.trans g9
      have c3 := cutV_le xs none (some (pl : Int))
      refine ⟨w1, W7, _, _, rfl, rfl, ((g4.trans e4).trans g9).k h3, W7v, by rw [sizeLine_eq]; simp only [List.length_singleton]; omega, fun w8 HA eA hA => ?_⟩
      have dA := d9.trans eA
      refine ⟨_, rfl, _, rfl, _, _, rfl, rfl, _, rfl, fa, xs, rfl, dA.k hfa, fun w9 HB eB hB => ?_⟩
      have cB := cutV_le xs (some ((pl : Int) + 1)) none
      refine ⟨w8, w9, _, _, rfl, rfl, eB.k hA, hB, by rw [List.length_append, sizeLine_eq]; simp only [List.length_singleton]; omega, fun w10 HC eC hC => ?_⟩
      have eall := (((e3.trans g4).trans e4).trans g9).trans ((eA.trans eB).trans eC)
      have dC := eD.trans eall
      have hLC := eall.k hLv
      have hw2 : IsRowT HC (.ref w2) := ⟨w2, _, rfl, (g9.trans ((eA.trans eB).trans eC)).k h4, mem_cat (fun x hx => (hcells x hx).mo dC) (mem_one ⟨_, .int 0⟩)⟩
      have hrowsC : ∀ x ∈ xs, IsRowT HC x := fun x hx => (hrows x hx).mo dC
      refine ⟨L, rvs, _, rfl, rfl, hLC, by rw [hrl', sizeLine_eq]; omega, ?_⟩
      have R3 := (R2.go eall).add (v := .ref w10) hLC ⟨w10, _, rfl, hC, mem_cat (mem_cat (mem_cut hrowsC) (mem_one hw2)) (mem_cut hrowsC)⟩
      generalize upd HC L (.lst (rvs ++ [.ref w10])) = HY at R3 ⊢
      clear R2 hLv hrl' eD e3 h3 d3 e4 h4 d4 g9 W7v d9 c3 eA hA dA eB hB cB eC hC eall dC hLC hw2 hrowsC hW7 g4 W2v hW2
      -- the first number greater
      obtain ⟨rvs, hLv, _, hrl'⟩ := R3.ex
      have eD := e2D.trans R3.fe
      obtain ⟨x0, hx0⟩ : ∃ x0, xs[0]? = some x0 := ⟨_, List.getElem?_eq_getElem (by omega)⟩
      obtain ⟨r0, hr0, ⟨ra0, rfl, hra00⟩⟩ := al.get hx0
      obtain ⟨hr0n, _⟩ := hFn r0 (List.mem_of_getElem? hr0)
      obtain ⟨c0, hc0⟩ : ∃ c0, r0[0]? = some c0 := ⟨_, List.getElem?_eq_getElem (by omega)⟩
      refine ⟨_, rfl, .inl ⟨rfl, _, SqL.of hLv⟩, ?_⟩
      refine ⟨_, rfl, fa, _, _, _, rfl, rfl, SqT.of (eD.k hfa), atI_nat (j := 0) hx0, ra0, _, _, _, rfl, rfl, SqT.of (eD.k hra00), atI_nat (j := 0) (by rw [List.getElem?_map, hc0]; rfl), _, _, rfl, rfl, by show 1 ≤ sizeLine; decide, fun W1 hW1 => ?_⟩
      have g3 := Fe.new (o := .tup [.int (c0 + 1)]) hW1
      have W1v : (upd HY W1 (.tup [.int (c0 + 1)])) W1 = some (.tup [.int (c0 + 1)]) := upd_same
      generalize upd HY W1 (.tup [.int (c0 + 1)]) = H3 at g3 W1v ⊢
      have d3 := eD.trans g3
      refine ⟨_, rfl, fa, _, _, _, rfl, rfl, SqT.of (d3.k hfa), atI_nat (j := 0) hx0, _, rfl, ra0, _, rfl, d3.k hra00, fun w2 H4 e4 h4 => ?_⟩
      have c4 := cutV_le (r0.map V.int) (some 1) none
      rw [List.length_map, hr0n] at c4
      refine ⟨W1, w2, _, _, rfl, rfl, e4.k W1v, h4, by rw [sizeLine_eq]; simp only [List.length_singleton]; omega, fun w3 H5 e5 h5 => ?_⟩
      have d5 := (d3.trans e4).trans e5
      refine ⟨by show 1 ≤ sizeLine; decide, fun W7 hW7 => ?_⟩
      have g9 := Fe.new (o := .tup [.ref w3]) hW7
      have W7v : (upd H5 W7 (.tup [.ref w3])) W7 = some (.tup [.ref w3]) := upd_same
      generalize upd H5 W7 (.tup [.ref w3]) = H9 at g9 W7v ⊢
      have d9 := d5.trans g9
      refine ⟨_, rfl, _, rfl, fa, xs, rfl, d9.k hfa, fun w9 HB eB hB => ?_⟩
      have cB := cutV_le xs (some 1) none
      refine ⟨W7, w9, _, _, rfl, rfl, eB.k W7v, hB, by rw [sizeLine_eq]; simp only [List.length_singleton]; omega, fun w10 HC eC hC => ?_⟩
      have eall := (((g3.trans e4).trans e5).trans g9).trans (eB.trans eC)
      have dC := eD.trans eall
      have hLC := eall.k hLv
      have hw3 : IsRowT HC (.ref w3) := ⟨w3, _, rfl, (g9.trans (eB.trans eC)).k h5, mem_cat (mem_one ⟨_, .int _⟩) (mem_cut fun x hx => by
        obtain ⟨i, _, rfl⟩ := List.mem_map.mp hx
        exact ⟨_, .int i⟩)⟩
      have hrowsC : ∀ x ∈ xs, IsRowT HC x := fun x hx => (hrows x hx).mo dC
      refine ⟨L, rvs, _, rfl, rfl, hLC, by rw [hrl', sizeLine_eq]; omega, ?_⟩
      have R4 := (R3.go eall).add (v := .ref w10) hLC ⟨w10, _, rfl, hC, mem_cat (mem_one hw3) (mem_cut hrowsC)⟩
      generalize upd HC L (.lst (rvs ++ [.ref w10])) = HZ at R4 ⊢
      clear R3 hLv hrl' eD d3 e4 h4 g9 W7v d9 eB hB cB eC hC eall dC hLC hw3 hrowsC hW7 g3 W1v hW1
      -- turned
      obtain ⟨rvs, hLv, _, hrl'⟩ := R4.ex
      have eD := e2D.trans R4.fe
      refine ⟨_, rfl, .inl ⟨rfl, _, SqL.of hLv⟩, _, rfl, fa, xs, rfl, SqT.of (eD.k hfa), fun w1 hw1 => ?_⟩
      have g1 := Fe.new (o := .tup xs.reverse) hw1
      have w1v : (upd HZ w1 (.tup xs.reverse)) w1 = some (.tup xs.reverse) := upd_same
      generalize upd HZ w1 (.tup xs.reverse) = H3 at g1 w1v ⊢
      have hLC := g1.k hLv
      refine ⟨L, rvs, _, rfl, rfl, hLC, by rw [hrl', sizeLine_eq]; omega, ?_⟩
      have R5 := (R4.go g1).add (v := .ref w1) hLC ⟨w1, _, rfl, w1v, fun x hx => (hrows x (List.mem_reverse.mp hx)).mo (eD.trans g1)⟩
      generalize upd H3 L (.lst (rvs ++ [.ref w1])) = HW at R5 ⊢
      obtain ⟨rvs', hL5, hth, hl5⟩ := R5.ex
      have e2W := e2D.trans R5.fe
      exact ⟨_, rfl, kk L rvs' HW (f02.trans e2W.to) (P2.keep e2W) nL hL5 (fun x hx => (hth x hx).elim (fun z => z.fe R5.fe) fun z => z.th) (by omega) (by omega)⟩
end
end Fm
/-! _law_asked -/
namespace Fm
open PySem L2
theorem sts0 {b : Book} {m : Mach} {rs : List (List Nat)} (h : RsOf b rs) (hp : 0 < m.1) : (stsOf m.1 rs)[0]? = some (0, []) := by
  have h0 : rs[0]? = some [] := by
    have hm := (h.mem []).mpr (.inl rfl)
    have hs := sorted_pw h.so
    cases rs with
    | nil => exact nomatch hm
    | cons x r =>
      rcases List.mem_cons.mp hm with e | e
      · rw [← e]; rfl
      · have := (List.pairwise_cons.mp hs).1 [] e
        have : x = [] := by
          cases x with
          | nil => rfl
          | cons y x => exact absurd this (by simp)
        rw [this]; rfl
  obtain ⟨n, hn⟩ : ∃ n, m.1 = n + 1 := ⟨m.1 - 1, by omega⟩
  rw [hn]
  unfold stsOf
  rw [List.range_succ_eq_map, List.flatMap_cons]
  rw [List.getElem?_append_left (by rw [List.length_map]; exact (List.getElem?_eq_some_iff.mp h0).1), List.getElem?_map, h0]
  rfl
/-- what floor_paper tells -/
def FPr (b : Book) (m : Mach) (t : List Nat) (H : Hp) (v : V) : Prop := (least (Mend b m t) = none ∧ v = .non) ∨ ∃ (c : Nat) (a p : Addr) (xs : List V) (Fl : List (List Int)) (rs : List (List Nat)), least (Mend b m t) = some c ∧ v = .ref a ∧ H a = some (.tup [vN c, .ref p]) ∧ H p = some (.tup xs) ∧ Al rF H xs Fl ∧ RsOf b rs ∧ Fl.length = t.length + 1 ∧ (∀ r ∈ Fl, r.length = (stsOf m.1 rs).length) ∧ IsFl b m (stsOf m.1 rs) t c Fl
def spFP2 : Sp := fun vs H Q _ => ∃ (b : Book) (m : Mach) (t : List Nat) (v1 v2 : V), vs = [v1, v2, .str ⟨t.toArray⟩] ∧ rBook H v1 b ∧ rMach H v2 m ∧ POk b m ∧ (∀ x ∈ t, x ∈ b.1) ∧ t.length ≤ 200 ∧ ∀ (v : V) (H' : Hp), Fe H H' → FPr b m t H' v → Q v H'
def thOf (F : List (List Int)) : Thing := some (F.map fun r => some (r.map some))
theorem thOf_ints (F : List (List Int)) : intsOf (thOf F) = F := by
  show (F.map fun r => some (r.map some)).map (fun r => (r.getD []).map fun c => c.getD 0) = F
  rw [List.map_map]
  refine (List.map_congr_left fun r _ => ?_).trans (List.map_id F)
  show ((r.map some).map fun c => c.getD 0) = r
  rw [List.map_map]
  exact (List.map_congr_left fun c _ => rfl).trans (List.map_id r)
theorem thOf_ok {F : List (List Int)} {n k : Nat} (h1 : F.length = k + 1) (h2 : ∀ r ∈ F, r.length = n) : rowsOk n k (thOf F) = true := by
  show (decide ((F.map fun r => some (r.map some)).length = k + 1) && (F.map fun r => some (r.map some)).all (rowOk n)) = true
  rw [List.length_map, decide_eq_true h1, Bool.true_and, List.all_eq_true]
  intro r hr
  obtain ⟨r0, h3, rfl⟩ := List.mem_map.mp hr
  show (decide ((r0.map some).length = n) && (r0.map some).all (·.isSome)) = true
  rw [List.length_map, decide_eq_true (h2 r0 h3), Bool.true_and, List.all_eq_true]
  intro c hc
  obtain ⟨c0, _, rfl⟩ := List.mem_map.mp hc
  rfl
theorem al_cells {H : Hp} : ∀ r : List Int, Paired (rCell H) (r.map V.int) (r.map some)
  | [] => .nil
  | c :: r => .cons (.int c) (al_cells r)
theorem al_frows {H : Hp} : ∀ {xs : List V} {F : List (List Int)}, Al rF H xs F → Paired (rFrow H) xs (F.map fun r => some (r.map some))
  | _, _, .nil => .nil
  | _, _, .cons ⟨a, e, h⟩ t => by
    subst e
    exact .cons (.tup h (al_cells _)) (al_frows t)
theorem thOf_r {H : Hp} {a : Addr} {xs : List V} {F : List (List Int)} (h : H a = some (.tup xs)) (al : Al rF H xs F) : rThing H (.ref a) (thOf F) := .tup h (al_frows al)
theorem rFrow.pl {H H' : Hp} {p g : Addr} {v : V} {c : Option (List (Option Int))} (h : rFrow H v c) (f : Fx [p, g] H H') (P : Pl H' p g) : rFrow H' v c := by
  cases h with
  | tup h al => exact .tup (f.tups _ _ h) (L2.Paired.mapP al fun _ _ q => q.mo f)
  | @lst a xs h =>
    by_cases q : a ∈ [p, g]
    · obtain ⟨s, gs, h1, h2, _⟩ := P
      rcases List.mem_cons.mp q with rfl | q
      · exact .lst h1
      · rw [List.mem_singleton.mp q]; exact .lst h2
    · exact .lst (f.keep _ _ q h)
theorem IsTh.pl {H H' : Hp} {p g : Addr} {v : V} (h : IsTh H v) (f : Fx [p, g] H H') (P : Pl H' p g) : IsTh H' v := by
  obtain ⟨th, h⟩ := h
  cases h with
  | tup h al => exact ⟨_, .tup (f.tups _ _ h) (L2.Paired.mapP al fun _ _ q => q.pl f P)⟩
  | @lst a xs h =>
    by_cases q : a ∈ [p, g]
    · obtain ⟨s, gs, h1, h2, _⟩ := P
      rcases List.mem_cons.mp q with rfl | q
      · exact ⟨_, .lst h1⟩
      · rw [List.mem_singleton.mp q]; exact ⟨_, .lst h2⟩
    · exact ⟨_, .lst (f.keep _ _ q h)⟩
  | non => exact ⟨_, .non⟩
def spAskF : Sp := fun vs H Q _ => ∃ (p g : Addr) (b : Book) (m : Mach) (t : List Nat) (many : Nat) (v1 v2 : V), vs = [.ref p, v1, v2, .str ⟨t.toArray⟩, vN many] ∧ Pl H p g ∧ rBook H v1 b ∧ rMach H v2 m ∧ POk b m ∧ m.2.2.length < 60 ∧ (∀ e ∈ b.2, e.2.2 ≤ 50) ∧ (∀ x ∈ t, x ∈ b.1) ∧ t.length ≤ 200 ∧ many ≤ 100 ∧ ∀ H', Fx [p, g] H H' → Pl H' p g → Q (.bl true) H'
def rMem (vs : List V) : Rp Unit := fun _ v _ => v ∈ vs
instance (vs : List V) : Mo (rMem vs) := ⟨fun _ h => h⟩
section
variable {P : Program} {w : World} {K : PySem.W.Frag} {g : Str → Option Value} {base : Heap}
theorem fp2_ok (T : Txt K g) : FnOk P w K g base CX0 7 T.d_floor_paper.f T.d_floor_paper.fd P_floor_paper spFP2 :=
  (ok_floor_paper T).imp fun vs H Q E ⟨b, m, t, v1, v2, e, hb, hm, pok, ht, htl, kk⟩ => ⟨b, m, t, v1, v2, e, hb, hm, pok, ht, htl, fun hn H' e => kk _ H' e (.inl ⟨hn, rfl⟩), fun c hc a p xs Fl rs H' e h1 h2 h3 h4 h5 h6 h7 => kk _ H' e (.inr ⟨c, a, p, xs, Fl, rs, hc, rfl, h1, h2, h3, h4, h5, h6, h7⟩)⟩
theorem ok_law_asked (T : Txt K g) : FnOk P w K g base CX0 8 T.d_law_asked.f T.d_law_asked.fd P_law_asked spAskF := by
  refine T.d_law_asked.F.ok sc_law_asked (fun vs H Q E h => ?_) (fun cdv A outer s H vs Q E hr h => ?_)
  · obtain ⟨_, _, _, _, _, _, _, _, rfl, _⟩ := h
    rfl
  · obtain ⟨p, g, b, m, t, many, v1, v2, rfl, hP, hb, hm, pok, hm60, hco, ht, htl, hmany, kk⟩ := h
    have hu := hu_of hr
    refine ⟨_, (pss_cons (ps_set (i := 5) sc_law_asked.nd rfl (by first | exact Or.inl rfl | exact Or.inr rfl) (pe_call (ok_law_moves T) (hr.mono (by decide)) rfl T.d_law_moves.mg T.d_law_moves.kp T.d_law_moves.b .nil pass0 (pa_cons (pv 1) (pa_cons (pv 2) pa_nil))))
    (pss_cons (ps_asg (pv 5) (kg_unl (K := K) 2 rfl rfl (pgs_cons (pg_name (i := 6) sc_law_asked.nd rfl (by first | exact Or.inl rfl | exact Or.inr rfl)) (pgs_cons (pg_name (i := 7) sc_law_asked.nd rfl (by first | exact Or.inl rfl | exact Or.inr rfl)) pgs_nil))))
    (pss_cons (ps_set (i := 8) sc_law_asked.nd rfl (by first | exact Or.inl rfl | exact Or.inr rfl) (pe_call (ok_law_least T) (hr.mono (by decide)) rfl T.d_law_least.mg T.d_law_least.kp T.d_law_least.b .nil pass0 (pa_cons (pv 7) (pa_cons (pe_callB (kc_len (K := K) rfl) (by rfl) T.z_len PySem.boot_len (pa_cons (pv 6) pa_nil)) (pa_cons (pv 3) pa_nil)))))
    (pss_cons (ps_set (i := 9) sc_law_asked.nd rfl (by first | exact Or.inl rfl | exact Or.inr rfl) (pe_ix (kx_tup (K := K) rfl) (pv 2) pe_int (fun _ _ => rfl)))
    (pss_cons (ps_setLc (i := 10) (own := [("k", 21)]) rfl sc_law_asked.nd rfl rfl (sw_true rfl rfl rfl (by decide +kernel)) (pi_range1 rfl T.z_range (pa_cons (pe_callB (kc_len (K := K) rfl) (by rfl) T.z_len PySem.boot_len (pa_cons (pv 6) pa_nil)) pa_nil)) (blkOk_by (N := N_law_asked) (sc := defScope s_law_asked) (by decide +kernel)) (fun _ _ _ _ _ => by exact (pg_name (i := 21) sc_law_asked.nd rfl (by first | exact Or.inl rfl | exact Or.inr rfl))) (fun _ _ _ _ _ => by exact pts_one (PW.pt (pw_and (pt_cmpR op_eq (pe_ix (kx_tup (K := K) rfl) (pe_ix (kx_list (K := K) rfl) (pv 6) (pv 21) (fun _ _ => rfl)) pe_int (fun _ _ => rfl)) pe_str (nomark _)) (pw_and1 (pt_cmpR (ko_in (K := K) rfl) (pe_ix (kx_tup (K := K) rfl) (pe_ix (kx_list (K := K) rfl) (pv 6) (pv 21) (fun _ _ => rfl)) pe_int (fun _ _ => rfl)) (pv 9) (by rfl)))))) (fun _ _ _ _ _ => by exact (pe_ix (kx_list (K := K) rfl) (pe_ix (kx_list (K := K) rfl) (pv 8) (pe_un un_neg pe_int) (fun _ _ => rfl)) (pv 21) (fun _ _ => rfl))))
    (pss_cons (ps_setLc (i := 10) (own := [("cost", 22)]) rfl sc_law_asked.nd rfl rfl (sw_true rfl rfl rfl (by decide +kernel)) (ki_list (K := K) rfl (pv 10)) (blkOk_by (N := N_law_asked) (sc := defScope s_law_asked) (by decide +kernel)) (fun _ _ _ _ _ => by exact (pg_name (i := 22) sc_law_asked.nd rfl (by first | exact Or.inl rfl | exact Or.inr rfl))) (fun _ _ _ _ _ => by exact pts_one (pt_cmpR op_notN (pv 22) pe_non (nomark _))) (fun _ _ _ _ _ => by exact (pv 22)))
    (pss_cons (ps_set (i := 11) sc_law_asked.nd rfl (by first | exact Or.inl rfl | exact Or.inr rfl) (pe_call (fp2_ok T) (hr.mono (by decide)) rfl T.d_floor_paper.mg T.d_floor_paper.kp T.d_floor_paper.b .nil pass0 (pa_cons (pv 1) (pa_cons (pv 2) (pa_cons (pv 3) pa_nil)))))
    (Evl.pss_cut (ps_if (pt_cmpR op_eq (pe_callB (kc_len (K := K) rfl) (by rfl) T.z_len PySem.boot_len (pa_cons (pv 10) pa_nil)) pe_int (nomark _))
      (pss_one (ps_if (pt_cmpR op_notN (pv 11) pe_non (nomark _))
        (pss_one (ps_ret pe_bl))
        pss_nil))
      (pss_one (ps_if (PW.pt (pw_or (pt_not (pt_val (pe_callB call_isi (by rfl) T.z_isinstance (by decide +kernel) (pa_cons (pv 11) (pa_cons (pe_bltn (v := .ty "tuple") (by rfl) T.z_tuple (by decide +kernel) rfl) pa_nil))))) (pw_or (pt_cmpR op_ne (pe_callB (kc_len (K := K) rfl) (by rfl) T.z_len PySem.boot_len (pa_cons (pv 11) pa_nil)) pe_int (nomark _)) (pw_or (pt_not (pt_val (pe_call (ok_law_integer T) (hr.mono (by decide)) rfl T.d_law_integer.mg T.d_law_integer.kp T.d_law_integer.b .nil pass0 (pa_cons (pe_ix (kx_tup (K := K) rfl) (pv 11) pe_int (fun _ _ => rfl)) pa_nil)))) (pw_or1 (pt_cmpR op_ne (pe_ix (kx_tup (K := K) rfl) (pv 11) pe_int (fun _ _ => rfl)) (pe_callB (kc_min (K := K) rfl rfl) (by rfl) T.z_min (by decide +kernel) (pa_cons (pv 10) pa_nil)) (nomark _)))))))
        (pss_one (ps_ret pe_bl))
        (pss_one (ps_if (PW.pt (pw_or (pt_not (pt_val (pe_call (ok_law_is_floor T) (hr.mono (by decide)) rfl T.d_law_is_floor.mg T.d_law_is_floor.kp T.d_law_is_floor.b .nil pass0 (pa_cons (pv 5) (pa_cons (pv 9) (pa_cons (pv 3) (pa_cons (pe_ix (kx_tup (K := K) rfl) (pv 11) pe_int (fun _ _ => rfl)) (pa_cons (pe_ix (kx_tup (K := K) rfl) (pv 11) pe_int (fun _ _ => rfl)) pa_nil)))))))) (pw_or1 (pt_cmpR op_isnot_bl (pe_call (ok_is_floor T) (hr.mono (by decide)) rfl T.d_is_floor.mg T.d_is_floor.kp T.d_is_floor.b .nil pass0 (pa_cons (pv 1) (pa_cons (pv 2) (pa_cons (pv 3) (pa_cons (pe_ix (kx_tup (K := K) rfl) (pv 11) pe_int (fun _ _ => rfl)) (pa_cons (pe_ix (kx_tup (K := K) rfl) (pv 11) pe_int (fun _ _ => rfl)) pa_nil)))))) pe_bl (nomark _)))))
          (pss_one (ps_ret pe_bl))
          pss_nil)))))
    (pss_cons (ps_set (i := 12) sc_law_asked.nd rfl (by first | exact Or.inl rfl | exact Or.inr rfl) (pe_callB (kc_min (K := K) rfl rfl) (by rfl) T.z_min (by decide +kernel) (pa_cons (pe_op op_cat (pv 10) (pe_lst (pa_cons pe_int pa_nil))) pa_nil)))
    (pss_cons (ps_for PassesOwn.never rfl (ki_list (K := K) rfl (pe_call (ok_law_own_floors T) (hr.mono (by decide)) rfl T.d_law_own_floors.mg T.d_law_own_floors.kp T.d_law_own_floors.b .nil pass0 (pa_cons (pv 0) (pa_cons (pv 8) (pa_cons (pe_callB (call_min2 rfl) (by rfl) T.z_min (by decide +kernel) (pa_cons (pv 12) (pa_cons pe_int pa_nil))) pa_nil))))) (pg_name (i := 13) sc_law_asked.nd rfl (by first | exact Or.inl rfl | exact Or.inr rfl))
      (pss_cons (ps_setLc (i := 14) (own := [("k", 21)]) rfl sc_law_asked.nd rfl rfl (sw_true rfl rfl rfl (by decide +kernel)) (pi_range1 rfl T.z_range (pa_cons (pe_callB (kc_len (K := K) rfl) (by rfl) T.z_len PySem.boot_len (pa_cons (pv 6) pa_nil)) pa_nil)) (blkOk_by (N := N_law_asked) (sc := defScope s_law_asked) (by decide +kernel)) (fun _ _ _ _ _ => by exact (pg_name (i := 21) sc_law_asked.nd rfl (by first | exact Or.inl rfl | exact Or.inr rfl))) (fun _ _ _ _ _ => by exact pts_one (PW.pt (pw_and (pt_cmpR op_eq (pe_ix (kx_tup (K := K) rfl) (pe_ix (kx_list (K := K) rfl) (pv 6) (pv 21) (fun _ _ => rfl)) pe_int (fun _ _ => rfl)) pe_str (nomark _)) (pw_and1 (pt_cmpR (ko_in (K := K) rfl) (pe_ix (kx_tup (K := K) rfl) (pe_ix (kx_list (K := K) rfl) (pv 6) (pv 21) (fun _ _ => rfl)) pe_int (fun _ _ => rfl)) (pv 9) (by rfl)))))) (fun _ _ _ _ _ => by exact (pe_ix (kx_tup (K := K) rfl) (pe_ix (kx_tup (K := K) rfl) (pv 13) (pe_un un_neg pe_int) (fun _ _ => rfl)) (pv 21) (fun _ _ => rfl))))
      (pss_cons (ps_set (i := 15) sc_law_asked.nd rfl (by first | exact Or.inl rfl | exact Or.inr rfl) (pe_callB (call_max2 rfl) (by rfl) T.z_max (by decide +kernel) (pa_cons pe_int (pa_cons (pe_callB (kc_min (K := K) rfl rfl) (by rfl) T.z_min (by decide +kernel) (pa_cons (pe_op op_cat (pv 14) (pe_lst (pa_cons pe_int pa_nil))) pa_nil)) pa_nil))))
      (pss_cons (ps_set (i := 16) sc_law_asked.nd rfl (by first | exact Or.inl rfl | exact Or.inr rfl) (pe_call (ok_law_bent T) (hr.mono (by decide)) rfl T.d_law_bent.mg T.d_law_bent.kp T.d_law_bent.b .nil pass0 (pa_cons (pv 0) (pa_cons (pv 13) pa_nil))))
      (pss_cons (ps_set (i := 17) sc_law_asked.nd rfl (by first | exact Or.inl rfl | exact Or.inr rfl) (pe_call (ok_law_draw T) (hr.mono (by decide)) rfl T.d_law_draw.mg T.d_law_draw.kp T.d_law_draw.b .nil pass0 (pa_cons (pv 0) (pa_cons (pe_callB (kc_len (K := K) rfl) (by rfl) T.z_len PySem.boot_len (pa_cons (pv 16) pa_nil)) pa_nil))))
      (pss_one (ps_for PassesOwn.never rfl (ki_list (K := K) rfl (pe_op op_cat (pe_lst (pa_cons (pv 13) pa_nil)) (pe_lc (own := [("k", 21)]) rfl sc_law_asked.nd (pi_range1 rfl T.z_range (pa_cons (pv 4) pa_nil)) (blkOk_by (N := N_law_asked) (sc := defScope s_law_asked) (by decide +kernel)) (fun _ _ _ _ _ => by exact (pg_name (i := 21) sc_law_asked.nd rfl (by first | exact Or.inl rfl | exact Or.inr rfl))) (fun _ _ _ _ _ => by exact pts_nil) (fun _ _ _ _ _ => by exact (pe_ix (kx_list (K := K) rfl) (pv 16) (pe_op op_mod (pe_callTy call_int1 (by rfl) T.z_int (by decide +kernel) (pa_cons (pe_op op_add (pv 17) (pe_op op_mul pe_int (pv 21))) pa_nil)) (pe_callB (kc_len (K := K) rfl) (by rfl) T.z_len PySem.boot_len (pa_cons (pv 16) pa_nil))) (fun _ _ => rfl)))))) (pg_name (i := 18) sc_law_asked.nd rfl (by first | exact Or.inl rfl | exact Or.inr rfl))
        (pss_one (ps_for PassesOwn.never rfl (ki_tup (K := K) rfl (pe_tup (pa_cons (pv 15) (pa_cons (pe_op op_add (pv 15) pe_int) pa_nil)))) (pg_name (i := 19) sc_law_asked.nd rfl (by first | exact Or.inl rfl | exact Or.inr rfl))
          (pss_cons (ps_set (i := 20) sc_law_asked.nd rfl (by first | exact Or.inl rfl | exact Or.inr rfl) (pe_call (ok_is_floor T) (hr.mono (by decide)) rfl T.d_is_floor.mg T.d_is_floor.kp T.d_is_floor.b .nil pass0 (pa_cons (pv 1) (pa_cons (pv 2) (pa_cons (pv 3) (pa_cons (pv 19) (pa_cons (pv 18) pa_nil)))))))
          (pss_one (ps_if (PW.pt (pw_or (pt_not (pt_val (pe_callB call_isi (by rfl) T.z_isinstance (by decide +kernel) (pa_cons (pv 20) (pa_cons (pe_bltn (v := .ty "bool") (by rfl) T.z_bool (by decide +kernel) rfl) pa_nil))))) (pw_or1 (pt_cmpR op_ne (pv 20) (pe_call (ok_law_is_floor T) (hr.mono (by decide)) rfl T.d_law_is_floor.mg T.d_law_is_floor.kp T.d_law_is_floor.b .nil pass0 (pa_cons (pv 5) (pa_cons (pv 9) (pa_cons (pv 3) (pa_cons (pv 19) (pa_cons (pv 18) pa_nil)))))) (nomark _)))))
            (pss_one (ps_ret pe_bl))
            pss_nil))))))))))))
    (pss_one (ps_ret pe_bl)))))))))))), ?_⟩
    obtain ⟨ma, vst, ven, vsp, rfl, hma, rfl, hen, hsp⟩ := id hm
    have mok := pok.mo
    refine ⟨_, rfl, _, rfl, b, m, v1, .ref ma, rfl, hb, hm, pok, hm60, fun W S F svs fvs rs l H1 e1 hWn hSn hFn hW hS hF hrs al alf mo => ?_⟩
    have so := sok_of pok hrs
    have hst4 := sts_len pok hrs
    have h0 := sts0 hrs mok.pos
    have hrs' := hrs
    generalize hsts : stsOf m.1 rs = sts at *
    have hsl := al.len
    refine ⟨_, rfl, W, _, rfl, SqL.of hW, rfl, _, _, rfl, _, _, rfl, rfl, ?_⟩
    refine ⟨_, rfl, _, rfl, S, _, rfl, .inl (SqL.of hS), _, rfl, b, m, sts, l, t, .ref F, by rw [hsl]; rfl, ⟨F, fvs, rfl, hF, alf⟩, mo, fun e he => ?_, so, h0, by omega, by omega, fun R ps rows H2 e2 hRn hpn hR hpl hrl hat hrows hbd => ?_⟩
    · obtain ⟨o, _, h⟩ := mo.ok e he
      exact told_cost50 hco h
    have e12 := e1.trans e2
    obtain ⟨qL, hqL⟩ : ∃ q, ps[t.length]? = some q := ⟨_, List.getElem?_eq_getElem (by omega)⟩
    obtain ⟨last, hlast⟩ : ∃ r, rows[t.length]? = some r := ⟨_, List.getElem?_eq_getElem (by omega)⟩
    have hqv := hat _ qL last hqL hlast
    have hLL := hrows _ last hlast
    rw [List.take_length] at hLL
    have hLn := hLL.len
    refine ⟨_, rfl, ma, _, _, _, rfl, rfl, SqT.of (e12.k hma), atI_nat (j := 1) rfl, ?_⟩
    obtain ⟨ea, exs, rfl, hea, heal⟩ := id hen
    have hexn := heal.nats
    have hS2 := e2.k hS
    have hea2 := e12.k hea
    have al2 : Al (rP rN rS) H2 svs sts := Al.me e2 al
    -- costs
    refine ⟨_, rfl, S, _, rfl, .inl (SqL.of hS2), _, rfl, by rw [hsl]; omega, by rw [hsl]; omega, fun C hC => ?_⟩
    have hcs : ((svs.length : Nat) : Int).toNat = sts.length := by rw [hsl]; omega
    rw [hcs]
    refine lc_range (fun i H' => ∃ cl : CRow, Cmp (rO rN) H2 C cl H' ∧ cl.length ≤ i ∧ ∀ c : Nat, some c ∈ cl ↔ ∃ (h : Nat) (s : Stg), h < i ∧ sts[h]? = some s ∧ EndS m s ∧ last[h]? = some (some c)) ⟨[], Cmp.start hC, Nat.le_refl _, fun c => ⟨fun z => (nomatch z), fun ⟨h, _, z, _⟩ => by omega⟩⟩ ?_ ?_
    · rintro i H' hi ⟨cl, c, hcl, hcm⟩
      rw [show ((0:Int)+(i:Int)) = (i:Int) from Int.zero_add _]
      obtain ⟨s, hs1⟩ : ∃ s, sts[i]? = some s := ⟨_, List.getElem?_eq_getElem hi⟩
      obtain ⟨x, hx, hxr⟩ := al2.at hs1
      obtain ⟨u, x1, x2, rfl, hu1, rfl, rfl⟩ := id (Me.go hxr c.fe)
      obtain ⟨oc, hoc⟩ : ∃ oc, last[i]? = some oc := ⟨_, List.getElem?_eq_getElem (by omega)⟩
      have skip : ¬ EndS m s → ∃ cl' : CRow, Cmp (rO rN) H2 C cl' H' ∧ cl'.length ≤ i + 1 ∧ ∀ c : Nat, some c ∈ cl' ↔ ∃ (h : Nat) (s : Stg), h < i + 1 ∧ sts[h]? = some s ∧ EndS m s ∧ last[h]? = some (some c) := fun hn => ⟨cl, c, by omega, fun d => (hcm d).trans ⟨fun ⟨h, s', z1, z2⟩ => ⟨h, s', by omega, z2⟩, fun ⟨h, s', z1, z2, z3, z4⟩ => by
        rcases (by omega : h < i ∨ h = i) with z | rfl
        · exact ⟨h, s', z, z2, z3, z4⟩
        · rw [hs1] at z2; cases z2; exact absurd z3 hn⟩⟩
      refine ⟨rfl, _, rfl, _, rfl, S, _, _, _, rfl, rfl, SqL.of (c.fe.k hS2), atI_nat hx, u, _, _, _, rfl, rfl, SqT.of hu1, atI_nat (j := 1) rfl, rfl, _, rfl, ?_⟩
      rw [dec_str_nil]
      by_cases q1 : s.2 = []
      · rw [decide_eq_true q1]
        refine iteT ⟨_, rfl, _, rfl, S, _, _, _, rfl, rfl, SqL.of (c.fe.k hS2), atI_nat hx, u, _, _, _, rfl, rfl, SqT.of hu1, atI_nat (j := 0) rfl, _, rfl, ea, _, rfl, .inr (SqT.of (c.fe.k hea2)), rfl, by rw [hexn]; exact flat_nats _, _, rfl, ?_⟩
        have einv : (if false = true then !inV (vN s.1) exs else inV (vN s.1) exs) = decide (s.1 ∈ m.2.1) := by rw [hexn]; exact inV_nats s.1 m.2.1
        rw [einv]
        by_cases q2 : s.1 ∈ m.2.1
        · rw [decide_eq_true q2]
          obtain ⟨acc, a1, a2, a3⟩ := c.add (x := oc) (y := oV oc) (by omega) (Fx.refl _ _) (by cases oc <;> rfl)
          refine iteT ⟨_, rfl, _, rfl, R, _, _, .ref qL, rfl, rfl, SqL.of (c.fe.k hR), atI_end (by rw [List.length_map, List.getElem?_map, hpl, hrl, Nat.add_sub_cancel, hqL]; rfl), _, rfl, qL, _, _, _, rfl, rfl, SqL.of (c.fe.k hqv), atI_nat (at_oV hoc), acc, a1, a2, cl ++ [oc], a3, by rw [List.length_append, List.length_singleton]; omega, fun d => ?_⟩
          rw [List.mem_append, hcm d, List.mem_singleton]
          constructor
          · rintro (⟨h, s', z1, z2⟩ | z)
            · exact ⟨h, s', by omega, z2⟩
            · exact ⟨i, s, Nat.lt_succ_self i, hs1, ⟨q1, q2⟩, by rw [hoc, z]⟩
          · rintro ⟨h, s', z1, z2, z3, z4⟩
            rcases (by omega : h < i ∨ h = i) with z | rfl
            · exact .inl ⟨h, s', z, z2, z3, z4⟩
            · rw [hoc] at z4; exact .inr (Option.some.inj z4).symm
        · rw [decide_eq_false q2]
          exact iteF (skip fun z => q2 z.2)
      · rw [decide_eq_false q1]
        exact iteF (iteF (skip fun z => q1 z.1))
    · rintro H3 ⟨cl, c, hcl, hcm⟩
      obtain ⟨_, cxs, eC, hC3, alc⟩ := c.rl
      cases eC
      have hcx := alc.opts
      subst hcx
      have e3 := c.fe
      -- the costs that there are
      refine ⟨_, rfl, C, rfl, ⟨_, SqL.of hC3⟩, fun C2 hC2 => lc_list (xs := cl.map oV) (fun i H' => ∃ l2 : List Nat, Cmp rN H3 C2 l2 H' ∧ l2.length ≤ i ∧ ∀ c : Nat, c ∈ l2 ↔ some c ∈ cl.take i) ⟨[], Cmp.start hC2, Nat.le_refl _, fun _ => by simp⟩ (fun i H' hi ⟨_, c, _⟩ => SqL.of (c.fe.k hC3)) (fun i x H' hx ⟨l2, c2, hl2, hm2⟩ => ?_) (fun H4 ⟨l2, c2, hl2, hm2⟩ => ?_)⟩
      · have hil := (List.getElem?_eq_some_iff.mp hx).1
        rw [List.length_map] at hil
        obtain ⟨oc, hoc, rfl⟩ : ∃ oc, cl[i]? = some oc ∧ x = oV oc := by
          rw [List.getElem?_map] at hx
          cases z : cl[i]? with
          | none => rw [z] at hx; cases hx
          | some oc => rw [z] at hx; exact ⟨oc, rfl, (Option.some.inj hx).symm⟩
        have htk : cl.take (i + 1) = cl.take i ++ [oc] := by rw [List.take_add_one, hoc]; rfl
        cases oc with
        | none =>
          refine ⟨rfl, _, rfl, rfl, _, rfl, iteF ⟨l2, c2, by omega, fun d => ?_⟩⟩
          rw [hm2, htk, List.mem_append, List.mem_singleton]
          exact ⟨.inl, fun z => z.elim id fun z => nomatch z⟩
        | some d0 =>
          obtain ⟨acc, a1, a2, a3⟩ := c2.add (x := d0) (y := vN d0) (by omega) (Fx.refl _ _) rfl
          refine ⟨rfl, _, rfl, rfl, _, rfl, iteT ⟨_, rfl, acc, a1, a2, l2 ++ [d0], a3, by rw [List.length_append, List.length_singleton]; omega, fun d => ?_⟩⟩
          rw [List.mem_append, hm2, htk, List.mem_append, List.mem_singleton, List.mem_singleton]
          exact or_congr Iff.rfl ⟨fun z => by rw [z], fun z => Option.some.inj z⟩
      · rw [List.length_map, List.take_of_length_le (by omega)] at hm2
        rw [List.length_map] at hl2
        obtain ⟨_, dxs, eC, hD4, ald⟩ := c2.rl
        cases eC
        have hdx := ald.nats
        subst hdx
        have e4 := c2.fe
        have e14 := (e12.trans e3).trans e4
        have e24 := e3.trans e4
        -- what the numbers are
        have hnum : ∀ d : Nat, d ∈ l2 → Mend b m t d := fun d hd => by
          obtain ⟨h, s, _, z2, z3, z4⟩ := (hcm d).mp ((hm2 d).mp hd)
          obtain ⟨s2, a1, a2⟩ := (rc_rs so _ _ _).mp (hLL.snd h d z4)
          rw [z2] at a1; cases a1
          exact ⟨s.1, z3.2, by rw [← z3.1]; exact a2⟩
        have hlow : ∀ d, Mend b m t d → ∃ d', d' ∈ l2 ∧ d' ≤ d := fun d ⟨q, hq, hr⟩ => by
          have hok := rs_stok so.mo hr
          obtain ⟨i, hi⟩ := so.idx hok.1 hok.2
          obtain ⟨d', h7, h8⟩ := hLL.low i d ((rc_rs so _ _ _).mpr ⟨_, hi, hr⟩)
          exact ⟨d', (hm2 d').mpr ((hcm d').mpr ⟨i, _, (List.getElem?_eq_some_iff.mp hi).1, hi, ⟨rfl, hq⟩, h7⟩), h8⟩
        refine ⟨_, rfl, _, rfl, _, rfl, b, m, t, v1, .ref ma, rfl, Mo.mo (r := rBook) e14 hb, Mo.mo (r := rMach) e14 hm, pok, ht, htl, fun tv H5 e5 hfp => ?_⟩
        have e15 := e14.trans e5
        have e25 := e24.trans e5
        have hC25 : H5 C2 = some (.lst (l2.map fun n : Nat => V.int (n : Int))) := e5.k hD4
        have hW5 := e25.k (e2.k hW)
        have hS5 := e25.k hS2
        have hF5 := e25.k (e2.k hF)
        have al5 : Al (rP rN rS) H5 svs sts := Al.me e25 al2
        have alf5 : Al rMv5 H5 fvs l := Al.me (e2.trans e25) alf
        have hb5 := Mo.mo (r := rBook) e15 hb
        have hm5 := Mo.mo (r := rMach) e15 hm
        have hen5 : rT rN H5 (.ref ea) m.2.1 := Mo.mo (r := rT rN) e15 hen
        have tt : PySem.W.kitOne K (.type "tuple") (.type "tuple") = some true := rfl
        -- what is told
        refine ⟨fun σ' H' => σ' = [some (.ref p), some v1, some (.ref ma), some (.str ⟨t.toArray⟩), some (vN many), some (.ref W), some (.ref S), some (.ref F), some (.ref R), some (.ref ea), some (.ref C2), some tv, none, none, none, none, none, none, none, none, none, none, none] ∧ Fe H5 H', ?_, ?_⟩
        · refine ⟨_, rfl, C2, _, rfl, .inl (SqL.of hC25), rfl, _, rfl, ?_⟩
          rcases hfp with ⟨hn, rfl⟩ | ⟨c, a, pp, xs, Fl, rs2, hc, rfl, ha, hp2, alF, hrs2, hFl, hFn2, hfl⟩
          · have hl0 : l2 = [] := by
              cases l2 with
              | nil => rfl
              | cons d r =>
                have := least_is (Mend b m t)
                rw [hn] at this
                exact absurd (hnum d List.mem_cons_self) (this d)
            rw [decide_eq_true (by rw [hl0]; rfl)]
            exact iteT ⟨_, rfl, rfl, _, rfl, iteF ⟨rfl, Fx.refl _ _⟩⟩
          · have li := least_is (Mend b m t)
            rw [hc] at li
            obtain ⟨d', hd1, hd2⟩ := hlow c li.1
            have hcl2 : c ∈ l2 := by
              have := li.2 d' (hnum d' hd1)
              have e : d' = c := by omega
              rw [← e]; exact hd1
            have hpos : 0 < l2.length := List.length_pos_of_mem hcl2
            rw [decide_eq_false (by rw [List.length_map]; intro z; have := V.int.inj z; omega)]
            refine iteF ?_
            refine ⟨_, rfl, _, _, _, _, _, rfl, .ty "tuple", .base (TyOf.tup ha), tt, _, rfl, iteF ?_⟩
            refine ⟨_, rfl, a, _, rfl, .inr (SqT.of ha), rfl, _, rfl, ?_⟩
            rw [decide_eq_true (by rfl)]
            refine iteF ?_
            refine ⟨_, rfl, a, _, _, _, rfl, rfl, SqT.of ha, atI_nat (j := 0) rfl, vN c, some c, rfl, .int c, _, rfl, iteF ?_⟩
            refine ⟨_, rfl, a, _, _, _, rfl, rfl, SqT.of ha, atI_nat (j := 0) rfl, _, rfl, C2, l2.map (fun n : Nat => (n : Int)), rfl, by rw [List.map_map]; exact SqL.of hC25, by rw [List.length_map]; exact hpos, fun mn h1 h2 => ⟨rfl, _, rfl, ?_⟩⟩
            obtain ⟨d, hd, rfl⟩ := List.mem_map.mp h1
            have hdc : d = c := by
              have a1 := li.2 d (hnum d hd)
              have a2 := h2 (c : Int) (List.mem_map.mpr ⟨c, hcl2, rfl⟩)
              omega
            subst hdc
            rw [decide_eq_true (by rfl)]
            refine iteF ?_
            have ers : rs2 = rs := hrs2.eq hrs
            subst ers
            rw [hsts] at hFn2 hfl
            refine ⟨_, rfl, _, rfl, _, rfl, _, rfl, a, _, _, _, rfl, rfl, SqT.of ha, atI_nat (j := 0) rfl, _, rfl, a, _, _, _, rfl, rfl, SqT.of ha, atI_nat (j := 1) rfl, b, m, sts, l, t, W, S, F, svs, .ref ea, .ref pp, (d : Int), thOf Fl, rfl, hW5, hS5, al5, ⟨F, fvs, rfl, hF5, alf5⟩, mo, so, h0, by omega, hen5, by omega, thOf_r hp2 alF, fun bb H6 e6 hbb => ⟨_, rfl, ?_⟩⟩
            have hbt : bb = true := hbb.mpr ⟨thOf_ok hFl hFn2, by rw [thOf_ints]; exact hfl⟩
            subst hbt
            refine iteF ?_
            refine ⟨_, rfl, _, rfl, _, rfl, _, rfl, a, _, _, _, rfl, rfl, SqT.of (e6.k ha), atI_nat (j := 0) rfl, _, rfl, a, _, _, _, rfl, rfl, SqT.of (e6.k ha), atI_nat (j := 1) rfl, b, m, t, v1, .ref ma, .ref pp, (d : Int), thOf Fl, rfl, Mo.mo (r := rBook) e6 hb5, Mo.mo (r := rMach) e6 hm5, pok, ht, by omega, (thOf_r hp2 alF).fe e6, fun bb2 H7 rs3 e7 hrs3 hbb2 => ⟨bb2, true, rfl, rfl, _, rfl, ?_⟩⟩
            have ers3 : rs3 = rs2 := hrs3.eq hrs2
            subst ers3
            have hbt2 : bb2 = true := hbb2.mpr ⟨by rw [hsts]; exact thOf_ok hFl hFn2, by rw [thOf_ints, hsts]; exact hfl⟩
            subst hbt2
            rw [decide_eq_true rfl]
            exact iteF ⟨rfl, e6.trans e7⟩
        · rintro σ' H6 ⟨rfl, e6⟩
          have e16 := e15.trans e6
          have e26 := e25.trans e6
          clear hfp hnum hlow
          -- far
          refine ⟨_, rfl, by show 1 ≤ sizeLine; decide, fun L hL => ?_⟩
          have gL := Fe.new (o := .lst [.int 60]) hL
          have hLv : (upd H6 L (.lst [.int 60])) L = some (.lst [.int 60]) := upd_same
          generalize upd H6 L (.lst [.int 60]) = H7 at gL hLv ⊢
          refine ⟨C2, L, _, _, rfl, rfl, gL.k (e6.k hC25), hLv, by rw [List.length_map, sizeLine_eq]; simp only [List.length_singleton]; omega, fun U hU => ?_⟩
          refine ⟨U, (l2.map fun n : Nat => (n : Int)) ++ [60], rfl, by rw [List.map_append, List.map_map]; exact SqL.of upd_same, by rw [List.length_append, List.length_singleton]; omega, fun mn h1 h2 => ?_⟩
          obtain ⟨far, rfl, hfar⟩ : ∃ far : Nat, mn = (far : Int) ∧ far ≤ 60 := by
            have h60 := h2 60 (List.mem_append_right _ (List.mem_singleton.mpr rfl))
            rcases List.mem_append.mp h1 with h | h
            · obtain ⟨d, _, rfl⟩ := List.mem_map.mp h
              exact ⟨d, rfl, by omega⟩
            · rw [List.mem_singleton.mp h]; exact ⟨60, rfl, Nat.le_refl _⟩
          have gU := Fe.new (o := .lst ((l2.map fun n : Nat => V.int (n : Int)) ++ [.int 60])) hU
          have e68 := gL.trans gU
          generalize upd H7 U (.lst ((l2.map fun n : Nat => V.int (n : Int)) ++ [.int 60])) = H8 at gU e68 ⊢
          have e18 := e16.trans e68
          have e28 := e26.trans e68
          have P8 := hP.keep e18
          have hmin : (if (8 : Int) < (far : Int) then (8 : Int) else (far : Int)) = ((min far 8 : Nat) : Int) := by split <;> omega
          refine ⟨_, rfl, _, rfl, _, rfl, _, _, rfl, p, g, R, ps, rows, sts.length, min far 8, congrArg (fun z => [V.ref p, V.ref R, V.int z]) hmin, P8, by omega, hP.nw (e1.free hRn), fun q hq => hP.nw (e1.free (hpn q hq)), e28.k hR, hpl, by omega, by omega, fun k q r h1 h2 => ⟨e28.k (hat k q r h1 h2), (hrows k r h2).len, fun c hc => ?_⟩, fun Z fv Fs H9 f9 P9 nZ hZ alZ hsh => ?_⟩
          · obtain ⟨h, hh⟩ := List.mem_iff_getElem?.mp hc
            have h3 := hbd k r h c h2 hh
            have h4 := (List.getElem?_eq_some_iff.mp h2).1
            have h5 : (k + 1) * ((sts.length + 1) * 50) ≤ 300 * 200000 := Nat.mul_le_mul (by omega) (by omega)
            omega
          have nW := hP.nw hWn
          have nS := hP.nw hSn
          have nF := hP.nw hFn
          have f19 : Fx [p, g] H H9 := e18.to.trans f9
          have hW9 := f9.keep _ _ nW ((e6.trans e68).k hW5)
          have hS9 := f9.keep _ _ nS ((e6.trans e68).k hS5)
          have hF9 := f9.keep _ _ nF ((e6.trans e68).k hF5)
          have al9 : Al (rP rN rS) H9 svs sts := Al.mo f9 (Al.mo (e6.trans e68) al5)
          have alf9 : Al rMv5 H9 fvs l := Al.mo f9 (Al.mo (e6.trans e68) alf5)
          have hb9 := Mo.mo (r := rBook) f19 hb
          have hm9 := Mo.mo (r := rMach) f19 hm
          have hen9 : rT rN H9 (.ref ea) m.2.1 := Mo.mo (r := rT rN) f19 hen
          have hea9 := f19.tups _ _ hea
          clear hW5 hS5 hF5 al5 alf5 hb5 hm5 hen5 f9 e68 e28 e18 P8 hmin gU gL hLv e16 e26 e6 e5 e15 e25 e4 e14 e24 hC25 hD4 hcm hm2 ald e3 hC3 alc hS2 hea2 al2 hqv hat hR hbd e2 hW hS hF al alf e12 e1
          have bbk : PySem.W.kitOne K (.type "bool") (.type "bool") = some true := rfl
          refine ⟨Z, rfl, ⟨_, SqL.of hZ⟩, for_lst (xs := fv) (fun i σ' H' => ∃ o13 o14 o15 o16 o17 o18 o19 o20 : Option V, σ' = [some (.ref p), some v1, some (.ref ma), some (.str ⟨t.toArray⟩), some (vN many), some (.ref W), some (.ref S), some (.ref F), some (.ref R), some (.ref ea), some (.ref C2), some tv, some (.int (far : Int)), o13, o14, o15, o16, o17, o18, o19, o20, none, none] ∧ Fx [p, g] H9 H' ∧ Pl H' p g) ⟨_, _, _, _, _, _, _, _, rfl, Fx.refl _ _, P9⟩ (fun i σ' H' _ ⟨_, _, _, _, _, _, _, _, _, f, _⟩ => f.keep _ _ nZ hZ) ?_ ?_⟩
          · rintro i x σ' H1 hx ⟨o13, o14, o15, o16, o17, o18, o19, o20, rfl, f1, P1⟩
            obtain ⟨F1, hF1, ⟨fa, xs, rfl, hfa9, alx9⟩⟩ := alZ.get hx
            obtain ⟨hFk, hFn⟩ := hsh F1 (List.mem_of_getElem? hF1)
            have hfa1 := f1.tups _ _ hfa9
            have alx1 := Al.mo f1 alx9
            have hxl := alx1.len
            obtain ⟨rl, hrlv⟩ : ∃ rl, F1[t.length]? = some rl := ⟨_, List.getElem?_eq_getElem (by omega)⟩
            obtain ⟨vl, hvl, ⟨ral, rfl, hral⟩⟩ := alx1.at hrlv
            have hrln := (hFn rl (List.mem_of_getElem? hrlv)).1
            have hS1 := f1.keep _ _ nS hS9
            have al1 : Al (rP rN rS) H1 svs sts := Al.mo f1 al9
            have hea1 := f1.tups _ _ hea9
            -- low
            refine ⟨_, rfl, S, _, rfl, .inl (SqL.of hS1), _, rfl, by rw [hsl]; omega, by rw [hsl]; omega, fun C hC => ?_⟩
            rw [hcs]
            refine lc_range (fun i H' => ∃ ll : List Int, Cmp rI H1 C ll H' ∧ ll.length ≤ i) ⟨[], Cmp.start hC, Nat.le_refl _⟩ ?_ ?_
            · rintro i H' hi ⟨ll, c, hll⟩
              rw [show ((0:Int)+(i:Int)) = (i:Int) from Int.zero_add _]
              obtain ⟨s, hs1⟩ : ∃ s, sts[i]? = some s := ⟨_, List.getElem?_eq_getElem hi⟩
              obtain ⟨y, hy, hyr⟩ := al1.at hs1
              obtain ⟨u, x1, x2, rfl, hu1, rfl, rfl⟩ := id (Me.go hyr c.fe)
              obtain ⟨z, hz⟩ : ∃ z, rl[i]? = some z := ⟨_, List.getElem?_eq_getElem (by omega)⟩
              refine ⟨rfl, _, rfl, _, rfl, S, _, _, _, rfl, rfl, SqL.of (c.fe.k hS1), atI_nat hy, u, _, _, _, rfl, rfl, SqT.of hu1, atI_nat (j := 1) rfl, rfl, _, rfl, ?_⟩
              rw [dec_str_nil]
              by_cases q1 : s.2 = []
              · rw [decide_eq_true q1]
                refine iteT ⟨_, rfl, _, rfl, S, _, _, _, rfl, rfl, SqL.of (c.fe.k hS1), atI_nat hy, u, _, _, _, rfl, rfl, SqT.of hu1, atI_nat (j := 0) rfl, _, rfl, ea, _, rfl, .inr (SqT.of (c.fe.k hea1)), rfl, by rw [hexn]; exact flat_nats _, _, rfl, ?_⟩
                have einv : (if false = true then !inV (vN s.1) exs else inV (vN s.1) exs) = decide (s.1 ∈ m.2.1) := by rw [hexn]; exact inV_nats s.1 m.2.1
                rw [einv]
                by_cases q2 : s.1 ∈ m.2.1
                · rw [decide_eq_true q2]
                  obtain ⟨acc, a1, a2, a3⟩ := c.add (x := z) (y := .int z) (by omega) (Fx.refl _ _) rfl
                  exact iteT ⟨_, rfl, _, rfl, fa, _, _, _, rfl, rfl, SqT.of (c.fe.k hfa1), atI_end (by rw [hxl, hFk, hrl, Nat.add_sub_cancel]; exact hvl), _, rfl, ral, _, _, _, rfl, rfl, SqT.of (c.fe.k hral), atI_nat (by rw [List.getElem?_map, hz]; rfl), acc, a1, a2, ll ++ [z], a3, by rw [List.length_append, List.length_singleton]; omega⟩
                · rw [decide_eq_false q2]
                  exact iteF ⟨ll, c, by omega⟩
              · rw [decide_eq_false q1]
                exact iteF (iteF ⟨ll, c, by omega⟩)
            · rintro H2 ⟨ll, c, hll⟩
              obtain ⟨_, lxs, eC, hCv, alc⟩ := c.rl
              cases eC
              have hci := alc.ints
              subst hci
              have f2 := f1.trans c.fe.to
              have P2 := P1.keep c.fe
              -- best
              refine ⟨_, rfl, by show 1 ≤ sizeLine; decide, fun L hL => ?_⟩
              have gL := Fe.new (o := .lst [.int 59]) hL
              have hLv : (upd H2 L (.lst [.int 59])) L = some (.lst [.int 59]) := upd_same
              generalize upd H2 L (.lst [.int 59]) = H3 at gL hLv ⊢
              refine ⟨C, L, _, _, rfl, rfl, gL.k hCv, hLv, by rw [List.length_map, sizeLine_eq]; simp only [List.length_singleton]; omega, fun U hU => ?_⟩
              refine ⟨U, ll ++ [59], rfl, by rw [List.map_append]; exact SqL.of upd_same, by rw [List.length_append, List.length_singleton]; omega, fun mn _ _ => ⟨_, _, rfl, ?_⟩⟩
              have gU := Fe.new (o := .lst (ll.map V.int ++ [.int 59])) hU
              generalize upd H3 U (.lst (ll.map V.int ++ [.int 59])) = H4 at gU ⊢
              generalize (if mn > 0 then mn else 0) = best
              have f4 := f2.trans (gL.trans gU).to
              have P4 := P2.keep (gL.trans gU)
              clear f2 P2 gL gU hLv hCv c hL hU
              -- bent
              refine ⟨_, rfl, _, rfl, p, g, fa, xs, F1, rows.length, sts.length, rfl, P4, f4.tups _ _ hfa9, Al.mo f4 alx9, ⟨hFk, hFn⟩, by omega, by omega, by have := (List.getElem?_eq_some_iff.mp h0).1; omega, by omega, fun Lb rvs H5 f5 P5 nLb hLb hth hr0 hr1 => ?_⟩
              refine ⟨_, rfl, _, rfl, Lb, _, rfl, .inl (SqL.of hLb), p, g, rvs.length, rfl, P5, hr0, by omega, fun first H6 f6 P6 hfirst => ?_⟩
              have f46 := f4.trans (f5.trans f6)
              have hLb6 := f6.keep _ _ nLb hLb
              have hth6 : ∀ x ∈ rvs, IsTh H6 x := fun x hx => (hth x hx).pl f6 P6
              have hfa6 := f46.tups _ _ hfa9
              have hfl6 : IsTh H6 (.ref fa) := (show IsThT H6 (.ref fa) from ⟨fa, xs, rfl, hfa6, fun x hx => by
                obtain ⟨i, hi⟩ := List.mem_iff_getElem?.mp hx
                obtain ⟨r, _, h⟩ := (Al.mo f46 alx9).get hi
                exact rF.rowT h⟩).th
              have hall6 : ∀ x ∈ (.ref fa :: rvs : List V), IsTh H6 x := fun x hx => by
                rcases List.mem_cons.mp hx with rfl | hx
                · exact hfl6
                · exact hth6 x hx
              refine ⟨_, rfl, by show 1 ≤ sizeLine; decide, fun L1 hL1 => ?_⟩
              have g7 := Fe.new (o := .lst [.ref fa]) hL1
              have hL1v : (upd H6 L1 (.lst [.ref fa])) L1 = some (.lst [.ref fa]) := upd_same
              generalize upd H6 L1 (.lst [.ref fa]) = H7 at g7 hL1v ⊢
              refine ⟨_, rfl, _, rfl, by omega, by omega, fun C3 hC3 => ?_⟩
              have hcm : ((many : Nat) : Int).toNat = many := by omega
              rw [hcm]
              have hLb7 := g7.k hLb6
              refine lc_range (fun i H' => ∃ us : List Unit, Cmp (rMem rvs) H7 C3 us H' ∧ us.length ≤ i) ⟨[], Cmp.start hC3, Nat.le_refl _⟩ ?_ ?_
              · rintro i H' hi ⟨us, c, hus⟩
                have hmod : ∃ r : Nat, ((first : Int) + 5 * (0 + (i : Int))) % ((rvs.length : Nat) : Int) = (r : Int) ∧ r < rvs.length := mod_nat _ hr0
                obtain ⟨r, hr1', hr2'⟩ := hmod
                have hv : rvs[r]? = some rvs[r] := List.getElem?_eq_getElem hr2'
                refine ⟨rfl, ?_⟩
                refine iteT (B := ∃ us : List Unit, Cmp (rMem rvs) H7 C3 us H' ∧ us.length ≤ i + 1) ?_
                refine ⟨_, rfl, _, rfl, _, rfl, _, _, rfl, rfl, .inl (by decide), _, _, rfl, rfl, .inl ⟨_, rfl, _, rfl, Lb, _, rfl, .inl (SqL.of (c.fe.k hLb7)), _, _, rfl, rfl, by show (0 : Int) < ((rvs.length : Nat) : Int); omega, ?_⟩⟩
                refine ⟨Lb, _, _, rvs[r], rfl, rfl, SqL.of (c.fe.k hLb7), by rw [hr1']; exact atI_nat hv, ?_⟩
                obtain ⟨acc, a1, a2, a3⟩ := c.add (x := ()) (y := rvs[r]) (by omega) (Fx.refl _ _) (List.mem_of_getElem? hv)
                exact ⟨acc, a1, a2, us ++ [()], a3, by rw [List.length_append, List.length_singleton]; omega⟩
              · rintro H8 ⟨us, c, hus⟩
                obtain ⟨_, tvs, eC, hC8, alt⟩ := c.rl
                cases eC
                have htl2 := alt.len
                have htm : ∀ x ∈ tvs, x ∈ rvs := fun x hx => by
                  obtain ⟨i, hi⟩ := List.mem_iff_getElem?.mp hx
                  obtain ⟨_, _, h⟩ := alt.get hi
                  exact h
                refine ⟨L1, C3, _, _, rfl, rfl, c.fe.k hL1v, hC8, by rw [sizeLine_eq]; simp only [List.length_singleton]; omega, fun L2 hL2 => ?_⟩
                have g9 := Fe.new (o := .lst ([.ref fa] ++ tvs)) hL2
                have e68 := (g7.trans c.fe).trans g9
                have hL2v : (upd H8 L2 (.lst ([.ref fa] ++ tvs))) L2 = some (.lst ([.ref fa] ++ tvs)) := upd_same
                have P9' := P6.keep e68
                generalize upd H8 L2 (.lst ([.ref fa] ++ tvs)) = HA at g9 e68 hL2v P9' ⊢
                have fA : Fx [p, g] H9 HA := f46.trans e68.to
                have hthA : ∀ x ∈ ([.ref fa] ++ tvs : List V), IsTh HA x := fun x hx => (hall6 x (by
                  rcases List.mem_append.mp hx with h | h
                  · rw [List.mem_singleton.mp h]; exact List.mem_cons_self
                  · exact List.mem_cons_of_mem _ (htm x h))).fe e68
                have hWA := fA.keep _ _ nW hW9
                have hSA := fA.keep _ _ nS hS9
                have hFA := fA.keep _ _ nF hF9
                have alA : Al (rP rN rS) HA svs sts := Al.mo fA al9
                have alfA : Al rMv5 HA fvs l := Al.mo fA alf9
                have hbA := Mo.mo (r := rBook) fA hb9
                have hmA := Mo.mo (r := rMach) fA hm9
                have henA : rT rN HA (.ref ea) m.2.1 := Mo.mo (r := rT rN) fA hen9
                refine ⟨L2, rfl, ⟨_, SqL.of hL2v⟩, for_lst (xs := [.ref fa] ++ tvs) (fun j σ' H' => ∃ o18 o19 o20 : Option V, σ' = [some (.ref p), some v1, some (.ref ma), some (.str ⟨t.toArray⟩), some (vN many), some (.ref W), some (.ref S), some (.ref F), some (.ref R), some (.ref ea), some (.ref C2), some tv, some (.int (far : Int)), some (.ref fa), some (.ref C), some (.int best), some (.ref Lb), some (.int (first : Int)), o18, o19, o20, none, none] ∧ Fe HA H') ⟨_, _, _, rfl, Fx.refl _ _⟩ (fun j σ' H' _ ⟨_, _, _, _, e⟩ => e.k hL2v) ?_ ?_⟩
                · rintro j x σ' HB hx ⟨o18, o19, o20, rfl, eB⟩
                  obtain ⟨th, hth0⟩ := (hthA x (List.mem_of_getElem? hx)).fe eB
                  refine ⟨_, rfl, _, rfl, _, _, rfl, rfl, by show 2 ≤ sizeLine; decide, fun U hU => ?_⟩
                  have gU := Fe.new (o := .tup [.int best, .int (best + 1)]) hU
                  have hUv : (upd HB U (.tup [.int best, .int (best + 1)])) U = some (.tup [.int best, .int (best + 1)]) := upd_same
                  generalize upd HB U (.tup [.int best, .int (best + 1)]) = HC at gU hUv ⊢
                  refine ⟨U, rfl, ⟨_, SqT.of hUv⟩, for_tup (xs := [.int best, .int (best + 1)]) (fun k σ' H' => ∃ o19 o20 : Option V, σ' = [some (.ref p), some v1, some (.ref ma), some (.str ⟨t.toArray⟩), some (vN many), some (.ref W), some (.ref S), some (.ref F), some (.ref R), some (.ref ea), some (.ref C2), some tv, some (.int (far : Int)), some (.ref fa), some (.ref C), some (.int best), some (.ref Lb), some (.int (first : Int)), some x, o19, o20, none, none] ∧ Fe HC H') ⟨_, _, rfl, Fx.refl _ _⟩ (fun k σ' H' _ ⟨_, _, _, e⟩ => SqT.of (e.k hUv)) ?_ ?_⟩
                  · rintro k y σ' HD hy ⟨o19, o20, rfl, eD⟩
                    obtain ⟨num, rfl⟩ : ∃ num : Int, y = .int num := by
                      have hk := (List.getElem?_eq_some_iff.mp hy).1
                      have hk : k < 2 := hk
                      rcases (by omega : k = 0 ∨ k = 1) with rfl | rfl
                      · cases hy; exact ⟨_, rfl⟩
                      · cases hy; exact ⟨_, rfl⟩
                    have eAD := (eB.trans gU).trans eD
                    refine ⟨_, rfl, _, rfl, _, rfl, _, rfl, _, rfl, b, m, t, v1, .ref ma, x, num, th, rfl, Mo.mo (r := rBook) eAD hbA, Mo.mo (r := rMach) eAD hmA, pok, ht, by omega, hth0.fe (gU.trans eD), fun bb HE rs3 eE hrs3 hbb => ?_⟩
                    have ers3 : rs3 = rs := hrs3.eq hrs
                    subst ers3
                    rw [hsts] at hbb
                    have eAE := eAD.trans eE
                    refine ⟨_, rfl, _, _, _, _, _, rfl, .ty "bool", .base (TyOf.bl bb), bbk, _, rfl, iteF ?_⟩
                    refine ⟨_, rfl, _, rfl, _, rfl, _, rfl, _, rfl, _, rfl, b, m, sts, l, t, W, S, F, svs, .ref ea, x, num, th, rfl, eAE.k hWA, eAE.k hSA, Al.mo eAE alA, ⟨F, fvs, rfl, eAE.k hFA, Al.mo eAE alfA⟩, mo, so, h0, by omega, Mo.mo (r := rT rN) eAE henA, by omega, hth0.fe ((gU.trans eD).trans eE), fun bb2 HG eG hbb2 => ⟨rfl, _, rfl, ?_⟩⟩
                    have ebb : bb = bb2 := Bool.eq_iff_iff.mpr (hbb.trans hbb2.symm)
                    subst ebb
                    rw [decide_eq_true rfl]
                    exact iteF ⟨_, _, rfl, (eD.trans eE).trans eG⟩
                  · rintro σ' HD ⟨o19, o20, rfl, eD⟩
                    exact ⟨_, _, _, rfl, (eB.trans gU).trans eD⟩
                · rintro σ' HB ⟨o18, o19, o20, rfl, eB⟩
                  exact ⟨_, _, _, _, _, _, _, _, rfl, fA.trans eB.to, P9'.keep eB⟩
          · rintro σ' H1 ⟨o13, o14, o15, o16, o17, o18, o19, o20, rfl, f1, P1⟩
            exact kk H1 (f19.trans f1) P1
end
end Fm
namespace Fm
open PySem L2
abbrev HRow := Nat × List Nat × List (Nat × Nat × Nat)
/-- a row of the houses; its lists are not R -/
def rRow (R : Addr) (N : List Addr) : Rp HRow := fun H v x => ∃ (t E S : Addr) (vs : List V), v = .ref t ∧ H t = some (.tup [.int (x.1 : Int), .ref E, .ref S]) ∧ H E = some (.lst (x.2.1.map vN)) ∧ H S = some (.lst vs) ∧ Al rStep H vs x.2.2 ∧ E ≠ R ∧ S ≠ R ∧ E ∉ N ∧ S ∉ N
theorem rRow.f {R : Addr} {N : List Addr} {H H' : Hp} {v : V} {x : HRow} (h : rRow R N H v x) (f : Fx [R] H H') : rRow R N H' v x := by
  obtain ⟨t, E, S, vs, rfl, h1, h2, h3, h4, h5, h6, h7⟩ := h
  exact ⟨t, E, S, vs, rfl, f.tups _ _ h1, f.keep _ _ (fun z => h5 (List.mem_singleton.mp z)) h2, f.keep _ _ (fun z => h6 (List.mem_singleton.mp z)) h3, Al.mo f h4, h5, h6, h7⟩
theorem rRow.al {R : Addr} {N : List Addr} {H H' : Hp} {vs : List V} {xs : List HRow} (h : Al (rRow R N) H vs xs) (f : Fx [R] H H') : Al (rRow R N) H' vs xs := L2.Paired.mapP h fun _ _ q => rRow.f q f
/-- a row while it is made -/
structure RB (H0 H : Hp) (E : Addr) (es : List Nat) (vs : List V) (sts : List (Nat × Nat × Nat)) : Prop where
  fe : Fe H0 H
  nE : H0 E = none
  hE : H E = some (.lst (es.map vN))
  al : Al rStep H vs sts
theorem RB.start {H : Hp} {E : Addr} (es : List Nat) (h : H E = none) : RB H (upd H E (.lst (es.map vN))) E es [] [] := ⟨Fe.new h, h, upd_same, .nil⟩
theorem RB.tup {H0 H : Hp} {E : Addr} {es : List Nat} {vs : List V} {sts : List (Nat × Nat × Nat)} (b : RB H0 H E es vs sts) {t : Addr} (h : H t = none) (x c y : Nat) : RB H0 (upd H t (.tup [.int (x : Int), s1 c, .int (y : Int)])) E es (vs ++ [.ref t]) (sts ++ [(x, c, y)]) := by
  have f := Fe.new (o := .tup [.int (x : Int), s1 c, .int (y : Int)]) h
  exact ⟨b.fe.trans f, b.nE, f.k b.hE, Al.snoc ⟨t, _, _, _, rfl, upd_same, rfl, rfl, rfl⟩ (Al.mo f b.al)⟩
theorem RB.fin {H0 H : Hp} {E : Addr} {es : List Nat} {vs : List V} {sts : List (Nat × Nat × Nat)} (b : RB H0 H E es vs sts) {S t R : Addr} {N : List Addr} (hS : H S = none) (n : Nat) (ht : (upd H S (.lst vs)) t = none) (nw : ∀ q, H0 q = none → q ∉ N) (hE : E ≠ R) (hSR : S ≠ R) :
    Fe H0 (upd (upd H S (.lst vs)) t (.tup [.int (n : Int), .ref E, .ref S])) ∧ rRow R N (upd (upd H S (.lst vs)) t (.tup [.int (n : Int), .ref E, .ref S])) (.ref t) (n, es, sts) := by
  have f1 := Fe.new (o := .lst vs) hS
  have f2 := Fe.new (o := .tup [.int (n : Int), .ref E, .ref S]) ht
  exact ⟨(b.fe.trans f1).trans f2, t, E, S, vs, rfl, upd_same, f2.k (f1.k b.hE), f2.k upd_same, Al.mo f2 (Al.mo f1 b.al), hE, hSR, nw _ b.nE, nw _ (b.fe.free hS)⟩
def rowsL (a b : Nat) : List HRow := [(2, [0, 1], [(0, a, 0), (0, b, 1), (1, b, 1)]), (2, [0], [(0, a, 1), (1, b, 0)]), (3, [2], [(0, a, 0), (0, b, 0), (0, a, 1), (1, b, 2)]), (2, [0], [(0, a, 1), (0, b, 1), (1, a, 0), (1, b, 0)]),
  (4, [2, 3], [(0, a, 1), (1, a, 2), (0, b, 3), (3, b, 2)]), (3, [1, 2], [(0, a, 1), (1, a, 1), (0, b, 2), (2, a, 2), (2, b, 1)])]
/-- what is asked of a row -/
structure RowOk (a b n : Nat) (el : List Nat) (sts : List (Nat × Nat × Nat)) : Prop where
  n0 : 0 < n
  n5 : n ≤ 5
  es : ∀ q ∈ el, q < n
  fewE : el.length ≤ 5
  st : ∀ s ∈ sts, s.1 < n ∧ s.2.2 < n ∧ s.2.1 ∈ [a, b]
  fewS : sts.length ≤ 8
theorem rowsL_ok (a b : Nat) : ∀ r ∈ rowsL a b, (r.1 ≤ 4 ∧ r.2.2.length ≤ 5) ∧ RowOk a b r.1 r.2.1 r.2.2 := by
  intro r hr
  unfold rowsL at hr
  simp only [List.mem_cons, List.not_mem_nil, or_false] at hr
  rcases hr with rfl | rfl | rfl | rfl | rfl | rfl
  all_goals
    refine ⟨⟨by simp, by simp⟩, ⟨by simp, by simp, by simp, by simp, fun s hs => ?_, by simp⟩⟩
    simp only [List.mem_cons, List.not_mem_nil, or_false] at hs
    first
      | (rcases hs with rfl | rfl | rfl | rfl | rfl <;> simp)
      | (rcases hs with rfl | rfl | rfl | rfl <;> simp)
      | (rcases hs with rfl | rfl | rfl <;> simp)
      | (rcases hs with rfl | rfl <;> simp)
def spHouse : Sp := fun vs H Q _ => ∃ (p g : Addr) (a b : Nat), vs = [.ref p, s1 a, s1 b] ∧ Pl H p g ∧ ∀ (v : V) (m : Mach) (H' : Hp), Fx [p, g] H H' → Pl H' p g → rMach H' v m → MOk m → m.1 ≤ 5 → (∀ s ∈ m.2.2, s.2.1 ∈ [a, b]) → m.2.2.length ≤ 10 → m.2.1.length ≤ 20 → Q v H'
theorem Fe.newK {H : Hp} {p : Addr} {o : HO} (h : H p = none) : Fe H (upd H p o) ∧ (upd H p o) p = some o := ⟨Fe.new h, upd_same⟩
theorem Fx.putK {M : List Addr} {H : Hp} {p : Addr} {o u : HO} (hp : H p = some u) (hM : p ∈ M) (hu : ∀ xs, u ≠ .tup xs) : Fx M H (upd H p o) ∧ (upd H p o) p = some o := ⟨Fx.put hp hM hu, upd_same⟩
theorem RB.ff {H0 H : Hp} {E : Addr} {es : List Nat} {vs : List V} {sts : List (Nat × Nat × Nat)} (b : RB H0 H E es vs sts) {S t : Addr} (hS : H S = none) (n : Nat) (ht : (upd H S (.lst vs)) t = none) :
    Fe H0 (upd (upd H S (.lst vs)) t (.tup [.int (n : Int), .ref E, .ref S])) ∧ (upd (upd H S (.lst vs)) t (.tup [.int (n : Int), .ref E, .ref S])) E = some (.lst (es.map vN)) ∧ (upd (upd H S (.lst vs)) t (.tup [.int (n : Int), .ref E, .ref S])) S = some (.lst vs) := by
  have f1 := Fe.new (o := .lst vs) hS
  have f2 := Fe.new (o := .tup [.int (n : Int), .ref E, .ref S]) ht
  exact ⟨(b.fe.trans f1).trans f2, f2.k (f1.k b.hE), f2.k upd_same⟩
theorem RB.fi {H0 H : Hp} {E : Addr} {es : List Nat} {vs : List V} {sts : List (Nat × Nat × Nat)} (b : RB H0 H E es vs sts) {S t R : Addr} {N : List Addr} {o : HO} (hS : H S = none) (n : Nat) (ht : (upd H S (.lst vs)) t = none) (nw : ∀ q, H0 q = none → q ∉ N) (hR : H0 R = some o) :
    Fe H0 (upd (upd H S (.lst vs)) t (.tup [.int (n : Int), .ref E, .ref S])) ∧ rRow R N (upd (upd H S (.lst vs)) t (.tup [.int (n : Int), .ref E, .ref S])) (.ref t) (n, es, sts) :=
  b.fin hS n ht nw (ne_of_none hR b.nE).symm (ne_of_none hR (b.fe.free hS)).symm
def HWi (p g : Addr) (a b kd n : Nat) (R E S N L : Addr) (H : Hp) (es : List Nat) (vs : List V) (sts : List (Nat × Nat × Nat)) (m : Nat) (σ' : L2.St) (H' : Hp) : Prop :=
  ∃ nums lft : List Nat, σ' = [some (.ref p), some (s1 a), some (s1 b), some (.int (kd : Int)), some (.ref R), some (.int (n : Int)), some (.ref E), some (.ref S), some (.ref N), some (.ref L), none, none, none, none] ∧ Fx [p, g] H H' ∧ Pl H' p g ∧
    H' E = some (.lst (es.map vN)) ∧ H' S = some (.lst vs) ∧ Al rStep H' vs sts ∧ H' N = some (.lst (nums.map vN)) ∧ H' L = some (.lst (lft.map vN)) ∧ (nums ++ lft).Perm (List.range n) ∧ m = lft.length
section
variable {P : Program} {w : World} {K : PySem.W.Frag} {g : Str → Option Value} {base : Heap}
theorem ok_law_house (T : Txt K g) : FnOk P w K g base CX0 2 T.d_law_house.f T.d_law_house.fd P_law_house spHouse := by
  refine T.d_law_house.F.ok sc_law_house (fun vs H Q E h => ?_) (fun cdv A outer s H vs Q E hr h => ?_)
  · obtain ⟨_, _, _, _, rfl, _⟩ := h
    rfl
  · obtain ⟨p, g, a, b, rfl, hP, kk⟩ := h
    have hu := hu_of hr
    refine ⟨_, (pss_cons (ps_set (i := 3) sc_law_house.nd rfl (by first | exact Or.inl rfl | exact Or.inr rfl) (pe_call (ok_law_draw T) (hr.mono (by decide)) rfl T.d_law_draw.mg T.d_law_draw.kp T.d_law_draw.b .nil pass0 (pa_cons (pv 0) (pa_cons pe_int pa_nil))))
    (pss_cons (ps_set (i := 4) sc_law_house.nd rfl (by first | exact Or.inl rfl | exact Or.inr rfl) (pe_lst (pa_cons (pe_tup (pa_cons pe_int (pa_cons (pe_lst (pa_cons pe_int (pa_cons pe_int pa_nil))) (pa_cons (pe_lst (pa_cons (pe_tup (pa_cons pe_int (pa_cons (pv 1) (pa_cons pe_int pa_nil)))) (pa_cons (pe_tup (pa_cons pe_int (pa_cons (pv 2) (pa_cons pe_int pa_nil)))) (pa_cons (pe_tup (pa_cons pe_int (pa_cons (pv 2) (pa_cons pe_int pa_nil)))) pa_nil)))) pa_nil)))) (pa_cons (pe_tup (pa_cons pe_int (pa_cons (pe_lst (pa_cons pe_int pa_nil)) (pa_cons (pe_lst (pa_cons (pe_tup (pa_cons pe_int (pa_cons (pv 1) (pa_cons pe_int pa_nil)))) (pa_cons (pe_tup (pa_cons pe_int (pa_cons (pv 2) (pa_cons pe_int pa_nil)))) pa_nil))) pa_nil)))) pa_nil))))
    (pss_cons (ps_expr (ke_bm (K := K) rfl PySem.F.plainAttrs_list PySem.F.slot_list_append PySem.F.type_list_append mt_append (pv 4) (pa_cons (pe_tup (pa_cons pe_int (pa_cons (pe_lst (pa_cons pe_int pa_nil)) (pa_cons (pe_lst (pa_cons (pe_tup (pa_cons pe_int (pa_cons (pv 1) (pa_cons pe_int pa_nil)))) (pa_cons (pe_tup (pa_cons pe_int (pa_cons (pv 2) (pa_cons pe_int pa_nil)))) (pa_cons (pe_tup (pa_cons pe_int (pa_cons (pv 1) (pa_cons pe_int pa_nil)))) (pa_cons (pe_tup (pa_cons pe_int (pa_cons (pv 2) (pa_cons pe_int pa_nil)))) pa_nil))))) pa_nil)))) pa_nil)))
    (pss_cons (ps_expr (ke_bm (K := K) rfl PySem.F.plainAttrs_list PySem.F.slot_list_append PySem.F.type_list_append mt_append (pv 4) (pa_cons (pe_tup (pa_cons pe_int (pa_cons (pe_lst (pa_cons pe_int pa_nil)) (pa_cons (pe_lst (pa_cons (pe_tup (pa_cons pe_int (pa_cons (pv 1) (pa_cons pe_int pa_nil)))) (pa_cons (pe_tup (pa_cons pe_int (pa_cons (pv 2) (pa_cons pe_int pa_nil)))) (pa_cons (pe_tup (pa_cons pe_int (pa_cons (pv 1) (pa_cons pe_int pa_nil)))) (pa_cons (pe_tup (pa_cons pe_int (pa_cons (pv 2) (pa_cons pe_int pa_nil)))) pa_nil))))) pa_nil)))) pa_nil)))
    (pss_cons (ps_expr (ke_bm (K := K) rfl PySem.F.plainAttrs_list PySem.F.slot_list_append PySem.F.type_list_append mt_append (pv 4) (pa_cons (pe_tup (pa_cons pe_int (pa_cons (pe_lst (pa_cons pe_int (pa_cons pe_int pa_nil))) (pa_cons (pe_lst (pa_cons (pe_tup (pa_cons pe_int (pa_cons (pv 1) (pa_cons pe_int pa_nil)))) (pa_cons (pe_tup (pa_cons pe_int (pa_cons (pv 1) (pa_cons pe_int pa_nil)))) (pa_cons (pe_tup (pa_cons pe_int (pa_cons (pv 2) (pa_cons pe_int pa_nil)))) (pa_cons (pe_tup (pa_cons pe_int (pa_cons (pv 2) (pa_cons pe_int pa_nil)))) pa_nil))))) pa_nil)))) pa_nil)))
    (pss_cons (ps_expr (ke_bm (K := K) rfl PySem.F.plainAttrs_list PySem.F.slot_list_append PySem.F.type_list_append mt_append (pv 4) (pa_cons (pe_tup (pa_cons pe_int (pa_cons (pe_lst (pa_cons pe_int (pa_cons pe_int pa_nil))) (pa_cons (pe_lst (pa_cons (pe_tup (pa_cons pe_int (pa_cons (pv 1) (pa_cons pe_int pa_nil)))) (pa_cons (pe_tup (pa_cons pe_int (pa_cons (pv 1) (pa_cons pe_int pa_nil)))) (pa_cons (pe_tup (pa_cons pe_int (pa_cons (pv 2) (pa_cons pe_int pa_nil)))) (pa_cons (pe_tup (pa_cons pe_int (pa_cons (pv 1) (pa_cons pe_int pa_nil)))) (pa_cons (pe_tup (pa_cons pe_int (pa_cons (pv 2) (pa_cons pe_int pa_nil)))) pa_nil)))))) pa_nil)))) pa_nil)))
    (pss_cons (ps_asg (pe_ix (kx_list (K := K) rfl) (pv 4) (pv 3) (fun _ _ => rfl)) (kg_tup (K := K) 3 rfl rfl (pgs_cons (pg_name (i := 5) sc_law_house.nd rfl (by first | exact Or.inl rfl | exact Or.inr rfl)) (pgs_cons (pg_name (i := 6) sc_law_house.nd rfl (by first | exact Or.inl rfl | exact Or.inr rfl)) (pgs_cons (pg_name (i := 7) sc_law_house.nd rfl (by first | exact Or.inl rfl | exact Or.inr rfl)) pgs_nil)))))
    (Evl.pss_cut (ps_if (pt_cmpR op_eq (pe_call (ok_law_draw T) (hr.mono (by decide)) rfl T.d_law_draw.mg T.d_law_draw.kp T.d_law_draw.b .nil pass0 (pa_cons (pv 0) (pa_cons pe_int pa_nil))) pe_int (nomark _))
      (pss_cons (ps_set (i := 7) sc_law_house.nd rfl (by first | exact Or.inl rfl | exact Or.inr rfl) (pe_op op_cat (pv 7) (pe_lst (pa_cons (pe_tup (pa_cons pe_int (pa_cons (pv 2) (pa_cons (pv 5) pa_nil)))) (pa_cons (pe_tup (pa_cons (pv 5) (pa_cons (pv 1) (pa_cons (pv 5) pa_nil)))) pa_nil)))))
      (pss_one (ps_aug (i := 5) sc_law_house.nd rfl (by first | exact Or.inl rfl | exact Or.inr rfl) pe_int ip_add)))
      pss_nil)
    (pss_cons (ps_set (i := 8) sc_law_house.nd rfl (by first | exact Or.inl rfl | exact Or.inr rfl) (pe_lst (pa_cons pe_int pa_nil)))
    (pss_cons (ps_set (i := 9) sc_law_house.nd rfl (by first | exact Or.inl rfl | exact Or.inr rfl) (pe_listRg rfl rfl T.z_list (prg_2 rfl T.z_range pe_int (pv 5))))
    (pss_cons (ps_while PassesOwn.never (pt_cmpR op_gt (pe_callB (kc_len (K := K) rfl) (by rfl) T.z_len PySem.boot_len (pa_cons (pv 9) pa_nil)) pe_int (nomark _))
      (pss_one (ps_expr (ke_bm (K := K) rfl PySem.F.plainAttrs_list PySem.F.slot_list_append PySem.F.type_list_append mt_append (pv 8) (pa_cons (ke_bm (K := K) rfl PySem.F.plainAttrs_list PySem.F.slot_list_pop PySem.F.type_list_pop mt_popAt (pv 9) (pa_cons (pe_call (ok_law_draw T) (hr.mono (by decide)) rfl T.d_law_draw.mg T.d_law_draw.kp T.d_law_draw.b .nil pass0 (pa_cons (pv 0) (pa_cons (pe_callB (kc_len (K := K) rfl) (by rfl) T.z_len PySem.boot_len (pa_cons (pv 9) pa_nil)) pa_nil))) pa_nil)) pa_nil)))))
    (pss_cons (ps_setLc (i := 10) (own := [("p", 11), ("x", 12), ("q", 13)]) rfl sc_law_house.nd rfl rfl (sw_true rfl rfl rfl (by decide +kernel)) (ki_list (K := K) rfl (pv 7)) (blkOk_by (N := N_law_house) (sc := defScope s_law_house) (by decide +kernel)) (fun _ _ _ _ _ => by exact (kg_tup (K := K) 3 rfl rfl (pgs_cons (pg_name (i := 11) sc_law_house.nd rfl (by first | exact Or.inl rfl | exact Or.inr rfl)) (pgs_cons (pg_name (i := 12) sc_law_house.nd rfl (by first | exact Or.inl rfl | exact Or.inr rfl)) (pgs_cons (pg_name (i := 13) sc_law_house.nd rfl (by first | exact Or.inl rfl | exact Or.inr rfl)) pgs_nil))))) (fun _ _ _ _ _ => by exact pts_nil) (fun _ _ _ _ _ => by exact (pe_tup (pa_cons (pe_ix (kx_list (K := K) rfl) (pv 8) (pv 11) (fun _ _ => rfl)) (pa_cons (pv 12) (pa_cons (pe_ix (kx_list (K := K) rfl) (pv 8) (pv 13) (fun _ _ => rfl)) pa_nil))))))
    (pss_one (ps_ret (pe_tup (pa_cons (pv 5) (pa_cons (pe_callTy (kc_tuple (K := K) rfl) (by rfl) T.z_tuple (by decide +kernel) (pa_cons (pe_callB (kc_sorted (K := K) rfl) (by rfl) T.z_sorted (by decide +kernel) (pa_cons (pe_lc (own := [("q", 13)]) rfl sc_law_house.nd (ki_list (K := K) rfl (pv 6)) (blkOk_by (N := N_law_house) (sc := defScope s_law_house) (by decide +kernel)) (fun _ _ _ _ _ => by exact (pg_name (i := 13) sc_law_house.nd rfl (by first | exact Or.inl rfl | exact Or.inr rfl))) (fun _ _ _ _ _ => by exact pts_nil) (fun _ _ _ _ _ => by exact (pe_ix (kx_list (K := K) rfl) (pv 8) (pv 13) (fun _ _ => rfl)))) pa_nil)) pa_nil)) (pa_cons (pe_callTy (kc_tuple (K := K) rfl) (by rfl) T.z_tuple (by decide +kernel) (pa_cons (pe_callB (kc_sortedSetT (K := K) (P := P) (w := w) rfl rfl rfl rfl) (by rfl) T.z_sorted (by decide +kernel) (pa_cons (pe_callTy (kc_setT (K := K) (P := P) (w := w) rfl rfl rfl rfl hr.units) (by rfl) T.z_set (by decide +kernel) (pa_cons (pv 10) pa_nil)) pa_nil)) pa_nil)) pa_nil)))))))))))))))))), ?_⟩
    refine ⟨_, rfl, p, g, 6, rfl, hP, by decide, by decide, fun kd H1 f1 P1 hkd => ?_⟩
    refine ⟨by show 2 ≤ sizeLine; decide, fun E0 hE0 => ?_⟩
    have b0_0 := RB.start [0, 1] hE0
    refine ⟨_, rfl, by show 3 ≤ sizeLine; decide, fun t0_0 ht0_0 => ?_⟩
    have b0_1 := b0_0.tup ht0_0 0 a 0
    refine ⟨_, rfl, by show 3 ≤ sizeLine; decide, fun t0_1 ht0_1 => ?_⟩
    have b0_2 := b0_1.tup ht0_1 0 b 1
    refine ⟨_, rfl, by show 3 ≤ sizeLine; decide, fun t0_2 ht0_2 => ?_⟩
    have b0_3 := b0_2.tup ht0_2 1 b 1
    refine ⟨by show 3 ≤ sizeLine; decide, fun S0 hS0 => ⟨by show 3 ≤ sizeLine; decide, fun u0 hu0 => ?_⟩⟩
    have ff0 := b0_3.ff hS0 2 hu0
    refine ⟨by show 1 ≤ sizeLine; decide, fun E1 hE1 => ?_⟩
    have b1_0 := RB.start [0] hE1
    refine ⟨_, rfl, by show 3 ≤ sizeLine; decide, fun t1_0 ht1_0 => ?_⟩
    have b1_1 := b1_0.tup ht1_0 0 a 1
    refine ⟨_, rfl, by show 3 ≤ sizeLine; decide, fun t1_1 ht1_1 => ?_⟩
    have b1_2 := b1_1.tup ht1_1 1 b 0
    refine ⟨by show 2 ≤ sizeLine; decide, fun S1 hS1 => ⟨by show 3 ≤ sizeLine; decide, fun u1 hu1 => ?_⟩⟩
    have ff1 := b1_2.ff hS1 2 hu1
    refine ⟨by show 2 ≤ sizeLine; decide, fun R hR => ?_⟩
    have q0 := b0_3.fin hS0 2 hu0 (fun q hq => P1.nw hq) (ne_of_none (ff1.1.k ff0.2.1) hR) (ne_of_none (ff1.1.k ff0.2.2) hR)
    have q1 := b1_2.fin hS1 2 hu1 (fun q hq => (P1.keep ff0.1).nw hq) (ne_of_none ff1.2.1 hR) (ne_of_none ff1.2.2 hR)
    obtain ⟨fR, k1⟩ := Fe.newK (o := .lst [.ref u0, .ref u1]) hR
    have hR0 : H1 R = none := ff0.1.free (ff1.1.free hR)
    have e1 : Fe H1 _ := (ff0.1.trans ff1.1).trans fR
    have al1 : Al (rRow R [p, g]) _ [.ref u0, .ref u1] ((rowsL a b).take 2) := .cons (rRow.f q0.2 (ff1.1.trans fR).to) (.cons (rRow.f q1.2 fR.to) .nil)
    refine ⟨_, rfl, .inl ⟨rfl, _, SqL.of k1⟩, ?_⟩
    refine ⟨by show 1 ≤ sizeLine; decide, fun E2 hE2 => ?_⟩
    have b2_0 := RB.start [2] hE2
    refine ⟨_, rfl, by show 3 ≤ sizeLine; decide, fun t2_0 ht2_0 => ?_⟩
    have b2_1 := b2_0.tup ht2_0 0 a 0
    refine ⟨_, rfl, by show 3 ≤ sizeLine; decide, fun t2_1 ht2_1 => ?_⟩
    have b2_2 := b2_1.tup ht2_1 0 b 0
    refine ⟨_, rfl, by show 3 ≤ sizeLine; decide, fun t2_2 ht2_2 => ?_⟩
    have b2_3 := b2_2.tup ht2_2 0 a 1
    refine ⟨_, rfl, by show 3 ≤ sizeLine; decide, fun t2_3 ht2_3 => ?_⟩
    have b2_4 := b2_3.tup ht2_3 1 b 2
    refine ⟨by show 4 ≤ sizeLine; decide, fun S2 hS2 => ⟨by show 3 ≤ sizeLine; decide, fun u2 hu2 => ?_⟩⟩
    have q2 := b2_4.fi hS2 3 hu2 (fun q hq => (P1.keep e1).nw hq) k1
    refine ⟨R, [.ref u0, .ref u1], _, rfl, rfl, q2.1.k k1, by show 2 < sizeLine; decide, ?_⟩
    obtain ⟨x2, k2⟩ := Fx.putK (M := [R]) (o := .lst ([.ref u0, .ref u1] ++ [.ref u2])) (q2.1.k k1) (List.mem_singleton.mpr rfl) (fun _ z => nomatch z)
    have al2 := Al.snoc (rRow.f q2.2 x2) (rRow.al (rRow.al al1 q2.1.to) x2)
    have e2 := (e1.trans q2.1).mut (o := .lst ([.ref u0, .ref u1] ++ [.ref u2])) hR0
    clear x2 q2
    refine ⟨_, rfl, .inl ⟨rfl, _, SqL.of k2⟩, ?_⟩
    refine ⟨by show 1 ≤ sizeLine; decide, fun E3 hE3 => ?_⟩
    have b3_0 := RB.start [0] hE3
    refine ⟨_, rfl, by show 3 ≤ sizeLine; decide, fun t3_0 ht3_0 => ?_⟩
    have b3_1 := b3_0.tup ht3_0 0 a 1
    refine ⟨_, rfl, by show 3 ≤ sizeLine; decide, fun t3_1 ht3_1 => ?_⟩
    have b3_2 := b3_1.tup ht3_1 0 b 1
    refine ⟨_, rfl, by show 3 ≤ sizeLine; decide, fun t3_2 ht3_2 => ?_⟩
    have b3_3 := b3_2.tup ht3_2 1 a 0
    refine ⟨_, rfl, by show 3 ≤ sizeLine; decide, fun t3_3 ht3_3 => ?_⟩
    have b3_4 := b3_3.tup ht3_3 1 b 0
    refine ⟨by show 4 ≤ sizeLine; decide, fun S3 hS3 => ⟨by show 3 ≤ sizeLine; decide, fun u3 hu3 => ?_⟩⟩
    have q3 := b3_4.fi hS3 2 hu3 (fun q hq => (P1.keep e2).nw hq) k2
    refine ⟨R, [.ref u0, .ref u1, .ref u2], _, rfl, rfl, q3.1.k k2, by show 3 < sizeLine; decide, ?_⟩
    obtain ⟨x3, k3⟩ := Fx.putK (M := [R]) (o := .lst ([.ref u0, .ref u1, .ref u2] ++ [.ref u3])) (q3.1.k k2) (List.mem_singleton.mpr rfl) (fun _ z => nomatch z)
    have al3 := Al.snoc (rRow.f q3.2 x3) (rRow.al (rRow.al al2 q3.1.to) x3)
    have e3 := (e2.trans q3.1).mut (o := .lst ([.ref u0, .ref u1, .ref u2] ++ [.ref u3])) hR0
    clear x3 q3
    refine ⟨_, rfl, .inl ⟨rfl, _, SqL.of k3⟩, ?_⟩
    refine ⟨by show 2 ≤ sizeLine; decide, fun E4 hE4 => ?_⟩
    have b4_0 := RB.start [2, 3] hE4
    refine ⟨_, rfl, by show 3 ≤ sizeLine; decide, fun t4_0 ht4_0 => ?_⟩
    have b4_1 := b4_0.tup ht4_0 0 a 1
    refine ⟨_, rfl, by show 3 ≤ sizeLine; decide, fun t4_1 ht4_1 => ?_⟩
    have b4_2 := b4_1.tup ht4_1 1 a 2
    refine ⟨_, rfl, by show 3 ≤ sizeLine; decide, fun t4_2 ht4_2 => ?_⟩
    have b4_3 := b4_2.tup ht4_2 0 b 3
    refine ⟨_, rfl, by show 3 ≤ sizeLine; decide, fun t4_3 ht4_3 => ?_⟩
    have b4_4 := b4_3.tup ht4_3 3 b 2
    refine ⟨by show 4 ≤ sizeLine; decide, fun S4 hS4 => ⟨by show 3 ≤ sizeLine; decide, fun u4 hu4 => ?_⟩⟩
    have q4 := b4_4.fi hS4 4 hu4 (fun q hq => (P1.keep e3).nw hq) k3
    refine ⟨R, [.ref u0, .ref u1, .ref u2, .ref u3], _, rfl, rfl, q4.1.k k3, by show 4 < sizeLine; decide, ?_⟩
    obtain ⟨x4, k4⟩ := Fx.putK (M := [R]) (o := .lst ([.ref u0, .ref u1, .ref u2, .ref u3] ++ [.ref u4])) (q4.1.k k3) (List.mem_singleton.mpr rfl) (fun _ z => nomatch z)
    have al4 := Al.snoc (rRow.f q4.2 x4) (rRow.al (rRow.al al3 q4.1.to) x4)
    have e4 := (e3.trans q4.1).mut (o := .lst ([.ref u0, .ref u1, .ref u2, .ref u3] ++ [.ref u4])) hR0
    clear x4 q4
    refine ⟨_, rfl, .inl ⟨rfl, _, SqL.of k4⟩, ?_⟩
    refine ⟨by show 2 ≤ sizeLine; decide, fun E5 hE5 => ?_⟩
    have b5_0 := RB.start [1, 2] hE5
    refine ⟨_, rfl, by show 3 ≤ sizeLine; decide, fun t5_0 ht5_0 => ?_⟩
    have b5_1 := b5_0.tup ht5_0 0 a 1
    refine ⟨_, rfl, by show 3 ≤ sizeLine; decide, fun t5_1 ht5_1 => ?_⟩
    have b5_2 := b5_1.tup ht5_1 1 a 1
    refine ⟨_, rfl, by show 3 ≤ sizeLine; decide, fun t5_2 ht5_2 => ?_⟩
    have b5_3 := b5_2.tup ht5_2 0 b 2
    refine ⟨_, rfl, by show 3 ≤ sizeLine; decide, fun t5_3 ht5_3 => ?_⟩
    have b5_4 := b5_3.tup ht5_3 2 a 2
    refine ⟨_, rfl, by show 3 ≤ sizeLine; decide, fun t5_4 ht5_4 => ?_⟩
    have b5_5 := b5_4.tup ht5_4 2 b 1
    refine ⟨by show 5 ≤ sizeLine; decide, fun S5 hS5 => ⟨by show 3 ≤ sizeLine; decide, fun u5 hu5 => ?_⟩⟩
    have q5 := b5_5.fi hS5 3 hu5 (fun q hq => (P1.keep e4).nw hq) k4
    refine ⟨R, [.ref u0, .ref u1, .ref u2, .ref u3, .ref u4], _, rfl, rfl, q5.1.k k4, by show 5 < sizeLine; decide, ?_⟩
    obtain ⟨x5, k5⟩ := Fx.putK (M := [R]) (o := .lst ([.ref u0, .ref u1, .ref u2, .ref u3, .ref u4] ++ [.ref u5])) (q5.1.k k4) (List.mem_singleton.mpr rfl) (fun _ z => nomatch z)
    have al5 := Al.snoc (rRow.f q5.2 x5) (rRow.al (rRow.al al4 q5.1.to) x5)
    have e5 := (e4.trans q5.1).mut (o := .lst ([.ref u0, .ref u1, .ref u2, .ref u3, .ref u4] ++ [.ref u5])) hR0
    clear x5 q5
    have al6 : Al (rRow R [p, g]) _ _ (rowsL a b) := al5
    clear al1 al2 al3 al4 al5 ff0 ff1 q0 q1 k1 k2 k3 k4
    obtain ⟨x, hx⟩ : ∃ x, (rowsL a b)[kd]? = some x := ⟨_, List.getElem?_eq_getElem (show kd < (rowsL a b).length from hkd)⟩
    obtain ⟨xv, hxv, t, E, S, vs, rfl, ht, hE, hS, hal, _, _, nE, nS⟩ := al6.at hx
    obtain ⟨⟨hx4, hx5⟩, hxo⟩ := rowsL_ok a b x (List.mem_of_getElem? hx)
    have P6 := P1.keep e5
    have f6 := f1.trans e5.to
    refine ⟨_, rfl, _, rfl, R, _, _, .ref t, rfl, rfl, SqL.of k5, atI_nat hxv, t, _, rfl, SqT.of ht, rfl, _, _, rfl, _, _, rfl, _, _, rfl, rfl, ?_⟩
    refine ⟨fun σ' H' => ∃ (n : Nat) (es : List Nat) (E S : Addr) (vs : List V) (sts : List (Nat × Nat × Nat)), σ' = [some (.ref p), some (s1 a), some (s1 b), some (.int (kd : Int)), some (.ref R), some (.int (n : Int)), some (.ref E), some (.ref S), none, none, none, none, none, none] ∧ Fx [p, g] H H' ∧ Pl H' p g ∧
      E ∉ [p, g] ∧ S ∉ [p, g] ∧ H' E = some (.lst (es.map vN)) ∧ H' S = some (.lst vs) ∧ Al rStep H' vs sts ∧ RowOk a b n es sts, ?_, ?_⟩
    · refine ⟨_, rfl, p, g, 2, rfl, P6, by decide, by decide, fun r H3 f3 P3 hr2 => ⟨rfl, _, rfl, ?_⟩⟩
      have hE3 := f3.keep _ _ nE hE
      have hS3 := f3.keep _ _ nS hS
      have al3 := Al.mo f3 hal
      refine ite2 (fun _ => ?_) (fun _ => ?_)
      · refine ⟨_, rfl, _, rfl, _, rfl, by show 3 ≤ sizeLine; decide, fun T1 hT1 => ?_⟩
        refine ⟨_, rfl, _, rfl, _, rfl, by show 3 ≤ sizeLine; decide, fun T2 hT2 => ?_⟩
        refine ⟨by show 2 ≤ sizeLine; decide, fun L hL => ?_⟩
        have g1 := Fe.new (o := .tup [.int 0, s1 b, .int (x.1 : Int)]) hT1
        have g2 := Fe.new (o := .tup [.int (x.1 : Int), s1 a, .int (x.1 : Int)]) hT2
        have g3 := Fe.new (o := .lst [.ref T1, .ref T2]) hL
        have hvl := al3.len
        have h8 := hxo.fewS
        refine ⟨S, L, vs, _, rfl, rfl, ((g1.trans g2).trans g3).k hS3, upd_same, by rw [sizeLine_eq]; show vs.length + 2 ≤ _; omega, fun S2 hS2 => ?_⟩
        have g4 := Fe.new (o := .lst (vs ++ [.ref T1, .ref T2])) hS2
        have g14 := ((g1.trans g2).trans g3).trans g4
        have P7 := P3.keep g14
        refine ⟨_, rfl, _, _, rfl, rfl, ?_⟩
        refine ⟨x.1 + 1, x.2.1, E, S2, _, x.2.2 ++ [(0, b, x.1), (x.1, a, x.1)], rfl, (f6.trans f3).trans g14.to, P7, nE, ((P3.keep ((g1.trans g2).trans g3)).nw hS2), g14.k hE3, upd_same, ?_, ?_⟩
        · refine Al.app (Al.mo g14 al3) (.cons ⟨T1, _, _, _, rfl, ((g2.trans g3).trans g4).k upd_same, rfl, rfl, rfl⟩ (.cons ⟨T2, _, _, _, rfl, (g3.trans g4).k upd_same, rfl, rfl, rfl⟩ .nil))
        · have h0 := hxo.n0
          refine ⟨by omega, by omega, fun q hq => Nat.lt_succ_of_lt (hxo.es q hq), hxo.fewE, fun s hs => ?_, ?_⟩
          · rcases List.mem_append.mp hs with hs | hs
            · have := hxo.st s hs
              exact ⟨by omega, by omega, this.2.2⟩
            · simp only [List.mem_cons, List.not_mem_nil, or_false] at hs
              rcases hs with rfl | rfl
              · exact ⟨by show 0 < x.1 + 1; omega, by show x.1 < x.1 + 1; omega, by simp⟩
              · exact ⟨by show x.1 < x.1 + 1; omega, by show x.1 < x.1 + 1; omega, by simp⟩
          · rw [List.length_append]
            show x.2.2.length + 2 ≤ 8
            omega
      · exact ⟨x.1, x.2.1, E, S, vs, x.2.2, rfl, f6.trans f3, P3, nE, nS, hE3, hS3, al3, hxo⟩
    · clear hxo hx5 hx4 hal hS hE ht nE nS hxv hx al6 f6 P6
      rintro σ' H2 ⟨n, es, E, S, vs, sts, rfl, f2, P2, nE, nS, hE, hS, al, ok⟩
      have hn0 := ok.n0
      have hn5 := ok.n5
      refine ⟨by show 1 ≤ sizeLine; decide, fun N hN => ?_⟩
      have gN := Fe.new (o := .lst [.int 0]) hN
      refine ⟨_, rfl, _, _, rfl, rfl, .of_le (by decide) (by omega) (by decide) (by omega), fun L hL => ?_⟩
      have gL := Fe.new (o := .lst (rgV 1 (n : Int))) hL
      have hNL : N ≠ L := ne_of_none upd_same hL
      have g2 := gN.trans gL
      have erg : rgV 1 (n : Int) = ((List.range (n - 1)).map (· + 1)).map vN := by
        unfold rgV
        rw [List.map_map, show ((n : Int) - 1).toNat = n - 1 by omega]
        refine List.map_congr_left fun i _ => ?_
        show V.int (1 + (i : Int)) = V.int ((i + 1 : Nat) : Int)
        rw [show (1 + (i : Int)) = ((i + 1 : Nat) : Int) by omega]
      have nN := P2.nw hN
      have nL := P2.nw (gN.free hL)
      have P3 := P2.keep g2
      have f3 := f2.trans g2.to
      have hNn : H N = none := f2.fr nN hN
      have hLn : H L = none := f2.fr nL (gN.free hL)
      have neE : E ≠ N ∧ E ≠ L := ⟨ne_of_none hE hN, ne_of_none (gN.k hE) hL⟩
      have neS : S ≠ N ∧ S ≠ L := ⟨ne_of_none hS hN, ne_of_none (gN.k hS) hL⟩
      refine ⟨HWi p g a b kd n R E S N L H es vs sts, ⟨_, [0], (List.range (n - 1)).map (· + 1), rfl, f3, P3, g2.k hE, g2.k hS, Al.mo g2 al, gL.k upd_same, by rw [upd_same, erg], ?_, rfl⟩, ?_⟩
      · have : List.range n = 0 :: (List.range (n - 1)).map (· + 1) := by
          conv => lhs; rw [show n = (n - 1) + 1 by omega, List.range_succ_eq_map]
        rw [this]
        exact List.Perm.refl _
      clear P3 f3 gL g2 gN erg hE hS al hN hL P2 f2
      rintro m σ' H3 ⟨nums, lft, rfl, f3, P3, hE, hS, al, hNl, hLl, pm, rfl⟩
      refine ⟨_, rfl, L, _, rfl, .inl (SqL.of hLl), _, _, rfl, rfl, _, rfl, ?_⟩
      cases lft with
      | cons l0 ls0 =>
        rw [decide_eq_true (show ((((l0 :: ls0).map vN).length : Nat) : Int) > 0 by rw [List.length_map, List.length_cons]; omega)]
        refine iteT ⟨fun σ2 H2 => ∃ k', k' < (l0 :: ls0).length ∧ HWi p g a b kd n R E S N L H es vs sts k' σ2 H2, fun _ _ h => h, ?_⟩
        generalize hlf : l0 :: ls0 = lft at hLl pm
        have hlp : 0 < lft.length := by rw [← hlf]; exact Nat.succ_pos _
        have hlp2 : lft.length ≤ 5 := by
          have h1 := pm.length_eq
          rw [List.length_append, List.length_range] at h1
          omega
        have hnp2 : nums.length ≤ 5 := by
          have h1 := pm.length_eq
          rw [List.length_append, List.length_range] at h1
          omega
        clear hlf l0 ls0
        refine ⟨_, rfl, .inl ⟨rfl, _, SqL.of hNl⟩, _, rfl, .inl ⟨rfl, _, SqL.of hLl⟩, _, rfl, _, rfl, L, _, rfl, .inl (SqL.of hLl), ?_⟩
        refine ⟨p, g, lft.length, by rw [List.length_map]; rfl, P3, hlp, by omega, fun k H4 f4 P4 hk => ?_⟩
        have h1 := f4.keep _ _ nL hLl
        have h2 := f4.keep _ _ nN hNl
        obtain ⟨y, hlk⟩ : ∃ y, lft[k]? = some y := ⟨lft[k], List.getElem?_eq_getElem hk⟩
        have pme := erase_at hlk
        have hk' : k < (lft.map vN).length := by rw [List.length_map]; exact hk
        have hpl := pme.length_eq
        rw [List.length_cons] at hpl
        refine ⟨L, _, _, k, vN y, rfl, rfl, h1, by omega, by omega, (ixN_seq (ixn hk')).1, by rw [List.getElem?_map, hlk]; rfl, N, nums.map vN, _, rfl, rfl, ?_, by rw [List.length_map, sizeLine_eq]; omega, ?_⟩
        · rw [upd_ne hNL]; exact h2
        have fa : Fx [L] H4 (upd H4 L (.lst ((lft.map vN).eraseIdx k))) := Fx.put h1 (List.mem_singleton.mpr rfl) (fun _ z => nomatch z)
        have fb : Fx [N] (upd H4 L (.lst ((lft.map vN).eraseIdx k))) (upd (upd H4 L (.lst ((lft.map vN).eraseIdx k))) N (.lst (nums.map vN ++ [vN y]))) := Fx.put (u := .lst (nums.map vN)) (by rw [upd_ne hNL]; exact h2) (List.mem_singleton.mpr rfl) (fun _ z => nomatch z)
        refine ⟨(lft.eraseIdx k).length, by omega, nums ++ [y], lft.eraseIdx k, rfl, ((f3.trans f4).mu hLn).mu hNn, (P4.put nL).put nN, ?_, ?_, Al.mo fb (Al.mo fa (Al.mo f4 al)), by rw [upd_same, List.map_append]; rfl, ?_, ?_, rfl⟩
        · rw [upd_ne neE.1, upd_ne neE.2]; exact f4.keep _ _ nE hE
        · rw [upd_ne neS.1, upd_ne neS.2]; exact f4.keep _ _ nS hS
        · rw [upd_ne hNL.symm, upd_same, map_erase]
        · rw [List.append_assoc]
          exact (pme.append_left nums).trans pm
      | nil =>
        rw [decide_eq_false (show ¬ ((((([] : List Nat).map vN).length : Nat) : Int) > 0) by simp)]
        refine iteF ?_
        rw [List.append_nil] at pm
        have hnl : nums.length = n := by rw [pm.length_eq, List.length_range]
        have nat_ : ∀ q, q < n → ∃ y, nums[q]? = some y ∧ y < n := fun q hq => by
          have e : nums[q]? = some (nums[q]'(by omega)) := List.getElem?_eq_getElem (by omega)
          exact ⟨_, e, List.mem_range.mp (pm.mem_iff.mp (List.mem_of_getElem? e))⟩
        have hsl := al.len
        have h8 := ok.fewS
        -- moved
        refine ⟨_, rfl, S, rfl, ⟨_, SqL.of hS⟩, fun D hD => lc_list (xs := vs) (fun i H' => ∃ mv : List (Nat × Nat × Nat), Cmp rStep H3 D mv H' ∧ mv.length = i ∧ ∀ s ∈ mv, s.1 < n ∧ s.2.2 < n ∧ s.2.1 ∈ [a, b]) ⟨[], Cmp.start hD, rfl, fun _ z => nomatch z⟩ (fun i H' hi ⟨mv, c, _⟩ => SqL.of (c.fe.k hS)) (fun i xv H' hx c => ?_) (fun H4 c => ?_)⟩
        · obtain ⟨mv, c, hml, hmk⟩ := c
          obtain ⟨st, hst, hxr⟩ := al.get hx
          obtain ⟨u, x1, x2, x3, rfl, hu2, rfl, rfl, rfl⟩ := id hxr
          obtain ⟨k1, k2, k3⟩ := ok.st st (List.mem_of_getElem? hst)
          obtain ⟨y1, e1, l1⟩ := nat_ _ k1
          obtain ⟨y2, e2, l2⟩ := nat_ _ k2
          have hil := (List.getElem?_eq_some_iff.mp hst).1
          have hN' := c.fe.k hNl
          refine ⟨u, _, rfl, SqT.of (c.fe.k hu2), rfl, _, _, rfl, _, _, rfl, _, _, rfl, rfl, rfl, ?_⟩
          refine ⟨_, rfl, _, rfl, N, _, _, _, rfl, rfl, SqL.of hN', atI_nat (by rw [List.getElem?_map, e1]; rfl), _, rfl, _, rfl, _, rfl, N, _, _, _, rfl, rfl, SqL.of hN', atI_nat (by rw [List.getElem?_map, e2]; rfl), by show 3 ≤ sizeLine; decide, fun U hU => ?_⟩
          have fU := Fe.new (o := .tup [vN y1, s1 st.2.1, vN y2]) hU
          have hr : rStep _ (.ref U) (y1, st.2.1, y2) := ⟨U, _, _, _, rfl, upd_same (H := H') (o := .tup [vN y1, s1 st.2.1, vN y2]), rfl, rfl, rfl⟩
          obtain ⟨acc, g1, g2, g3⟩ := c.add (by omega) fU hr
          refine ⟨acc, g1, g2, _, g3, by rw [List.length_append, List.length_singleton]; omega, fun s hs => ?_⟩
          rcases List.mem_append.mp hs with hs | hs
          · exact hmk s hs
          · rw [List.mem_singleton.mp hs]; exact ⟨l1, l2, k3⟩
        · obtain ⟨mv, c, hml, hmk⟩ := c
          have hml2 : mv.length ≤ 8 := by omega
          obtain ⟨_, vs2, eD, hDv, al2⟩ := c.rl
          cases eD
          have hE4 := c.fe.k hE
          have hN4 := c.fe.k hNl
          have f34 := c.fe
          have P4 := P3.keep f34
          -- the ends
          refine ⟨_, rfl, _, rfl, E, rfl, ⟨_, SqL.of hE4⟩, fun D2 hD2 => lc_list (xs := es.map vN) (fun i H' => ∃ l : List Nat, Cmp rN H4 D2 l H' ∧ l.length = i ∧ ∀ q ∈ l, q < n) ⟨[], Cmp.start hD2, rfl, fun _ z => nomatch z⟩ (fun i H' hi ⟨l, c, _⟩ => SqL.of (c.fe.k hE4)) (fun i xv H' hx c => ?_) (fun H5 c => ?_)⟩
          · obtain ⟨l, c, hll, hlk⟩ := c
            rw [List.getElem?_map] at hx
            obtain ⟨q, hq, rfl⟩ : ∃ q, es[i]? = some q ∧ xv = vN q := by
              cases e : es[i]? with
              | none => rw [e] at hx; cases hx
              | some q => rw [e] at hx; exact ⟨q, rfl, (Option.some.inj hx).symm⟩
            have hqn := ok.es q (List.mem_of_getElem? hq)
            obtain ⟨y1, e1, l1⟩ := nat_ _ hqn
            have hil := (List.getElem?_eq_some_iff.mp hq).1
            have h5 := ok.fewE
            refine ⟨rfl, ?_⟩
            refine ⟨_, rfl, _, rfl, N, _, _, _, rfl, rfl, SqL.of (c.fe.k hN4), atI_nat (by rw [List.getElem?_map, e1]; rfl), ?_⟩
            obtain ⟨acc, g1, g2, g3⟩ := c.add (by omega) (Fx.refl _ _) (show rN _ (vN y1) y1 from rfl)
            refine ⟨acc, g1, g2, _, g3, by rw [List.length_append, List.length_singleton]; omega, fun s hs => ?_⟩
            rcases List.mem_append.mp hs with hs | hs
            · exact hlk s hs
            · rw [List.mem_singleton.mp hs]; exact l1
          · obtain ⟨l, c, hll, hlk⟩ := c
            rw [List.length_map] at hll
            have h5 := ok.fewE
            obtain ⟨_, vs3, eD2, hD2v, al3⟩ := c.rl
            cases eD2
            have hn3 := al3.nats
            subst hn3
            refine ⟨D2, l.map (fun n : Nat => (n : Int)), rfl, by rw [List.map_map]; exact SqL.of hD2v, by rw [List.length_map]; omega, fun ys q hpm _ hq => ?_⟩
            obtain ⟨l', rfl, hpl⟩ := perm_nats hpm
            have fq := Fe.new (o := .lst ((l'.map fun n : Nat => (n : Int)).map V.int)) hq
            refine ⟨q, _, rfl, .inl ⟨SqL.of upd_same, fun U hU => ?_⟩⟩
            have fU := Fe.new (o := .tup ((l'.map fun n : Nat => (n : Int)).map V.int)) hU
            have f4U := (c.fe.trans fq).trans fU
            have hSU := f4U.k hDv
            have alU := Al.mo f4U al2
            obtain ⟨ks, rfl, hkl, hk⟩ := tl_of stK (fun v x h => step_key h) alU
            refine ⟨_, rfl, D, ks, rfl, SqL.of hSU, fun p hp => ?_, by omega, fun a' L' ha hsub hlen hcov => ?_⟩
            · obtain ⟨_, _, _, h⟩ := hk p hp
              exact SqT.of h
            have g1 := Fe.new (o := SetMO P w a' L') ha
            refine ⟨a', L', [false, true, false], rfl, upd_same, fun p hp => ?_, by decide, fun L2 q2 hpm2 hq2 => ?_⟩
            · obtain ⟨s, _, e, h⟩ := hk p (hsub p hp)
              exact ⟨SqT.of (g1.k h), by rw [e]; rfl⟩
            have g2 := g1.trans (Fe.new (o := .lst (L2.map fun q => V.ref q.1)) hq2)
            refine ⟨q2, _, rfl, .inl ⟨SqL.of upd_same, fun u hu => ?_⟩⟩
            have g3 := g2.trans (Fe.new (o := .tup (L2.map fun q => V.ref q.1)) hu)
            obtain ⟨sl, hal, hsub2, hlen2⟩ := steps_back hk hsub hpm2 g3
            refine ⟨by show 3 ≤ sizeLine; decide, fun Z hZ => ?_⟩
            have gZ := Fe.new (o := .tup [.int (n : Int), .ref U, .ref u]) hZ
            have ft := (f4U.trans g3).trans gZ
            have l'n : ∀ q ∈ l', q < n := fun q hq => hlk q (hpl.mem_iff.mp hq)
            refine kk _ (n, l', sl) _ ((f3.trans f34.to).trans ft.to) (P4.keep ft) ⟨Z, _, _, _, rfl, upd_same, rfl, ⟨U, _, rfl, (g3.trans gZ).k upd_same, by rw [List.map_map]; exact Al.ofNats l'⟩, ⟨u, _, rfl, gZ.k upd_same, Al.mo gZ hal⟩⟩ ⟨hn0, by show n ≤ 1000; omega, l'n, fun s hs => ⟨(hmk s (hsub2 s hs)).1, (hmk s (hsub2 s hs)).2.1⟩, by show sl.length ≤ 100; omega⟩ hn5 (fun s hs => (hmk s (hsub2 s hs)).2.2) (by show sl.length ≤ 10; omega) (by show l'.length ≤ 20; have := hpl.length_eq; omega)
end
end Fm
namespace Fm
open PySem L2
abbrev BKV := List (List Key × V)
def eK (r w : List Nat) : List Key := [kS r, kS w]
/-- an edit as the law makes it -/
def EdOk (ls r w : List Nat) (c : Nat) : Prop := (∀ x ∈ r, x ∈ ls) ∧ (∀ x ∈ w, x ∈ ls) ∧ r ≠ w ∧ 1 ≤ c ∧ c ≤ 50
/-- the edits so far, over the letters ls -/
def DB (ls : List Nat) (kvs : BKV) : Prop := ∀ kv ∈ kvs, ∃ (r w : List Nat) (c : Nat), kv = (eK r w, vN c) ∧ r.length ≤ 3 ∧ w.length ≤ 3 ∧ EdOk ls r w c
theorem eK_inj {r w r' w' : List Nat} (h : eK r w = eK r' w') : r = r' ∧ w = w' := by
  unfold eK at h
  injection h with h1 h2
  injection h2 with h2 _
  exact ⟨kS_inj _ _ h1, kS_inj _ _ h2⟩
theorem putK_mem {κ : Type} [DecidableEq κ] {kvs : List (κ × V)} {k : κ} {v : V} {kv : κ × V} (h : kv ∈ putK kvs k v) : kv = (k, v) ∨ kv ∈ kvs := by
  unfold putK at h
  split at h
  · obtain ⟨x, hx, e⟩ := List.mem_map.mp h
    split at e
    · rename_i q
      subst e
      exact .inl (Prod.ext q rfl)
    · subst e; exact .inr hx
  · rcases List.mem_append.mp h with h | h
    · exact .inr h
    · exact .inl (List.mem_singleton.mp h)
theorem DB.put {ls : List Nat} {kvs : BKV} (d : DB ls kvs) {r w : List Nat} (c : Nat) (h1 : r.length ≤ 3) (h2 : w.length ≤ 3) (h3 : EdOk ls r w c) : DB ls (putK kvs (eK r w) (vN c)) := fun kv h => by
  rcases putK_mem h with rfl | h
  · exact ⟨r, w, c, rfl, h1, h2, h3⟩
  · exact d kv h
theorem valV_mem {κ : Type} [DecidableEq κ] : ∀ {kvs : List (κ × V)} {k : κ} {v : V}, (k, v) ∈ kvs → ∃ v', valV kvs k = some v' ∧ (k, v') ∈ kvs
  | p :: kvs, k, v, h => by
    by_cases e : p.1 = k
    · exact ⟨p.2, valV_pos e, by rw [← e]; exact List.mem_cons_self⟩
    · rcases List.mem_cons.mp h with h | h
      · exact absurd (by rw [← h]) e
      · obtain ⟨v', h1, h2⟩ := valV_mem h
        exact ⟨v', by rw [valV_neg e]; exact h1, List.mem_cons_of_mem _ h2⟩
/-- the dict at D while the book is made -/
structure BS (p g : Addr) (H0 H : Hp) (D : Addr) (ls : List Nat) (k : Nat) : Prop where
  fx : Fx [p, g] H0 H
  pl : Pl H p g
  nD : H0 D = none
  nD2 : D ∉ [p, g]
  kv : ∃ kvs, H D = some (.dT kvs) ∧ DB ls kvs ∧ kvs.length ≤ k
theorem BS.f {p g : Addr} {H0 H H' : Hp} {D : Addr} {ls : List Nat} {k : Nat} (b : BS p g H0 H D ls k) (f : Fx [p, g] H H') (q : Pl H' p g) : BS p g H0 H' D ls k := by
  obtain ⟨kvs, h1, h2⟩ := b.kv
  exact ⟨b.fx.trans f, q, b.nD, b.nD2, kvs, f.keep _ _ b.nD2 h1, h2⟩
theorem BS.fe {p g : Addr} {H0 H H' : Hp} {D : Addr} {ls : List Nat} {k : Nat} (b : BS p g H0 H D ls k) (f : Fe H H') : BS p g H0 H' D ls k := b.f f.to (b.pl.keep f)
theorem BS.wk {p g : Addr} {H0 H : Hp} {D : Addr} {ls : List Nat} {k k' : Nat} (b : BS p g H0 H D ls k) (h : k ≤ k') : BS p g H0 H D ls k' := by
  obtain ⟨kvs, h1, h2, h3⟩ := b.kv
  exact ⟨b.fx, b.pl, b.nD, b.nD2, kvs, h1, h2, Nat.le_trans h3 h⟩
theorem BS.put {p g : Addr} {H0 H : Hp} {D U : Addr} {ls : List Nat} {k : Nat} (b : BS p g H0 H D ls k) (hk : k < 1000) {r w : List Nat} (hU : H U = some (.tup ((eK r w).map kV))) (c : Nat) (h1 : r.length ≤ 3) (h2 : w.length ≤ 3) (h3 : EdOk ls r w c) :
    ∃ H', DPut H D (.ref U) (vN c) H' ∧ BS p g H0 H' D ls (k + 1) := by
  obtain ⟨kvs, e1, e2, e3⟩ := b.kv
  refine ⟨_, DPut.t e1 hU (by rw [sizeLine_eq]; omega), b.fx.mu b.nD, b.pl.put b.nD2, b.nD, b.nD2, _, upd_same, e2.put c h1 h2 h3, ?_⟩
  have := length_putK kvs (eK r w) (vN c)
  omega
def spBook : Sp := fun vs H Q _ => ∃ (p g : Addr) (ls : List Nat) (n : Nat), vs = [.ref p, .str ⟨ls.toArray⟩, .int (n : Int)] ∧ Pl H p g ∧ ls ≠ [] ∧ ls.length ≤ 3 ∧ n ≤ 10 ∧
  ∀ (v : V) (es : List (List Nat × List Nat × Nat)) (H' : Hp), Fx [p, g] H H' → Pl H' p g → rBook H' v (ls, es) → BOk (ls, es) → es.length ≤ 30 → (∀ e ∈ es, EdOk ls e.1 e.2.1 e.2.2) → Q v H'
section
variable {P : Program} {w : World} {K : PySem.W.Frag} {g : Str → Option Value} {base : Heap}
theorem ok_law_book (T : Txt K g) : FnOk P w K g base CX0 3 T.d_law_book.f T.d_law_book.fd P_law_book spBook := by
  refine T.d_law_book.F.ok sc_law_book (fun vs H Q E h => ?_) (fun cdv A outer s H vs Q E hr h => ?_)
  · obtain ⟨_, _, _, _, rfl, _⟩ := h
    rfl
  · obtain ⟨p, g, ls, n, rfl, hP, hls, hl3, hn, kk⟩ := h
    have hu := hu_of hr
    refine ⟨_, (pss_cons (ps_set (i := 3) sc_law_book.nd rfl (by first | exact Or.inl rfl | exact Or.inr rfl) pe_dnewT)
    (pss_cons (ps_set (i := 4) sc_law_book.nd rfl (by first | exact Or.inl rfl | exact Or.inr rfl) (pe_ix (kx_list (K := K) rfl) (pe_lst (pa_cons pe_int (pa_cons pe_int (pa_cons pe_int (pa_cons pe_int pa_nil))))) (pe_call (ok_law_draw T) (hr.mono (by decide)) rfl T.d_law_draw.mg T.d_law_draw.kp T.d_law_draw.b .nil pass0 (pa_cons (pv 0) (pa_cons pe_int pa_nil))) (fun _ _ => rfl)))
    (Evl.pss_cut (ps_if (pt_cmpR op_eq (pe_call (ok_law_draw T) (hr.mono (by decide)) rfl T.d_law_draw.mg T.d_law_draw.kp T.d_law_draw.b .nil pass0 (pa_cons (pv 0) (pa_cons pe_int pa_nil))) pe_int (nomark _))
      (pss_one (ps_for PassesOwn.never rfl (pi_str (pv 1)) (pg_name (i := 5) sc_law_book.nd rfl (by first | exact Or.inl rfl | exact Or.inr rfl))
        (pss_cons (ps_dput hu (pv 3) (pe_tup (pa_cons (pv 5) (pa_cons pe_str pa_nil))) (pe_op op_add pe_int (pe_call (ok_law_draw T) (hr.mono (by decide)) rfl T.d_law_draw.mg T.d_law_draw.kp T.d_law_draw.b .nil pass0 (pa_cons (pv 0) (pa_cons (pv 4) pa_nil)))) rfl)
        (pss_cons (ps_dput hu (pv 3) (pe_tup (pa_cons pe_str (pa_cons (pv 5) pa_nil))) (pe_op op_add pe_int (pe_call (ok_law_draw T) (hr.mono (by decide)) rfl T.d_law_draw.mg T.d_law_draw.kp T.d_law_draw.b .nil pass0 (pa_cons (pv 0) (pa_cons (pv 4) pa_nil)))) rfl)
        (pss_one (ps_for PassesOwn.never rfl (pi_str (pv 1)) (pg_name (i := 6) sc_law_book.nd rfl (by first | exact Or.inl rfl | exact Or.inr rfl))
          (pss_one (ps_if (PW.pt (pw_and (pt_cmpR op_ne (pv 5) (pv 6) (nomark _)) (pw_and1 (pt_cmpR op_eq (pe_call (ok_law_draw T) (hr.mono (by decide)) rfl T.d_law_draw.mg T.d_law_draw.kp T.d_law_draw.b .nil pass0 (pa_cons (pv 0) (pa_cons pe_int pa_nil))) pe_int (nomark _)))))
            (pss_one (ps_dput hu (pv 3) (pe_tup (pa_cons (pv 5) (pa_cons (pv 6) pa_nil))) (pe_op op_add pe_int (pe_call (ok_law_draw T) (hr.mono (by decide)) rfl T.d_law_draw.mg T.d_law_draw.kp T.d_law_draw.b .nil pass0 (pa_cons (pv 0) (pa_cons (pv 4) pa_nil)))) rfl))
            pss_nil))))))))
      pss_nil)
    (pss_cons (ps_for PassesOwn.never rfl (pi_range1 rfl T.z_range (pa_cons (pe_call (ok_law_draw T) (hr.mono (by decide)) rfl T.d_law_draw.mg T.d_law_draw.kp T.d_law_draw.b .nil pass0 (pa_cons (pv 0) (pa_cons (pe_op op_add (pv 2) pe_int) pa_nil))) pa_nil)) (pg_name (i := 7) sc_law_book.nd rfl (by first | exact Or.inl rfl | exact Or.inr rfl))
      (pss_cons (ps_set (i := 8) sc_law_book.nd rfl (by first | exact Or.inl rfl | exact Or.inr rfl) (pe_call (ok_law_text T) (hr.mono (by decide)) rfl T.d_law_text.mg T.d_law_text.kp T.d_law_text.b .nil pass0 (pa_cons (pv 0) (pa_cons (pv 1) (pa_cons pe_int pa_nil)))))
      (pss_cons (ps_set (i := 9) sc_law_book.nd rfl (by first | exact Or.inl rfl | exact Or.inr rfl) (pe_call (ok_law_text T) (hr.mono (by decide)) rfl T.d_law_text.mg T.d_law_text.kp T.d_law_text.b .nil pass0 (pa_cons (pv 0) (pa_cons (pv 1) (pa_cons pe_int pa_nil)))))
      (pss_one (ps_if (pt_cmpR op_ne (pv 8) (pv 9) (nomark _))
        (pss_one (ps_dput hu (pv 3) (pe_tup (pa_cons (pv 8) (pa_cons (pv 9) pa_nil))) (pe_op op_add pe_int (pe_call (ok_law_draw T) (hr.mono (by decide)) rfl T.d_law_draw.mg T.d_law_draw.kp T.d_law_draw.b .nil pass0 (pa_cons (pv 0) (pa_cons (pv 4) pa_nil)))) rfl))
        pss_nil)))))
    (pss_one (ps_ret (pe_tup (pa_cons (pv 1) (pa_cons (pe_callTy (kc_tuple (K := K) rfl) (by rfl) T.z_tuple (by decide +kernel) (pa_cons (pe_callB (kc_sortedTL (K := K) rfl) (by rfl) T.z_sorted (by decide +kernel) (pa_cons (pe_lock (pe_lc (own := [("key", 10)]) rfl sc_law_book.nd (pi_keys (pv 3)) (blkOk_by (N := N_law_book) (sc := defScope s_law_book) (by decide +kernel)) (fun _ _ _ _ _ => by exact (pg_name (i := 10) sc_law_book.nd rfl (by first | exact Or.inl rfl | exact Or.inr rfl))) (fun _ _ _ _ _ => by exact pts_nil) (fun _ _ _ _ _ => by exact (pe_op (ko_catT (K := K) rfl) (pv 10) (pe_tup (pa_cons (pe_dget hu (pv 3) (pv 10) (fun _ _ => rfl)) pa_nil)))))) pa_nil)) pa_nil)) pa_nil))))))))), ?_⟩
    intro D hD
    have b0 : BS p g H (upd H D (.dT [])) D ls 0 := ⟨(Fe.new hD).to, hP.keep (Fe.new hD), hD, hP.nw hD, [], upd_same, (fun _ z => nomatch z), Nat.le_refl _⟩
    -- dear
    refine ⟨by show 4 ≤ sizeLine; decide, fun L hL => ?_⟩
    have gL := Fe.new (o := .lst [.int 1, .int 3, .int 3, .int 40]) hL
    have b1 := b0.fe gL
    refine ⟨_, rfl, p, g, 4, rfl, b1.pl, by decide, by decide, fun r H1 f1 P1 hr4 => ?_⟩
    have b2 := b1.f f1 P1
    have nL := b0.pl.nw hL
    have hL1 := f1.keep _ _ nL (upd_same (o := HO.lst [.int 1, .int 3, .int 3, .int 40]))
    obtain ⟨dear, hdr, hd0, hd40⟩ : ∃ d : Nat, ([V.int 1, V.int 3, V.int 3, V.int 40] : List V)[r]? = some (vN d) ∧ 0 < d ∧ d ≤ 40 := by
      rcases (by omega : r = 0 ∨ r = 1 ∨ r = 2 ∨ r = 3) with rfl | rfl | rfl | rfl
      · exact ⟨1, rfl, by decide, by decide⟩
      · exact ⟨3, rfl, by decide, by decide⟩
      · exact ⟨3, rfl, by decide, by decide⟩
      · exact ⟨40, rfl, by decide, by decide⟩
    refine ⟨L, _, _, vN dear, rfl, rfl, SqL.of hL1, atI_nat hdr, ?_⟩
    clear hdr hL1 nL
    -- if
    refine ⟨fun σ' H' => ∃ o5 o6 : Option V, σ' = [some (.ref p), some (.str ⟨ls.toArray⟩), some (.int (n : Int)), some (.ref D), some (vN dear), o5, o6, none, none, none, none] ∧ BS p g H H' D ls 15, ?_, ?_⟩
    · refine ⟨_, rfl, p, g, 2, rfl, P1, by decide, by decide, fun r2 H2 f2 P2 _ => ⟨rfl, _, rfl, ?_⟩⟩
      have b3 := b2.f f2 P2
      refine ite2 (fun _ => ?_) (fun _ => ⟨_, _, rfl, b3.wk (by decide)⟩)
      refine ⟨_, rfl, _, rfl, for_str (l := ls) (fun i σ' H' => ∃ o5 o6 : Option V, σ' = [some (.ref p), some (.str ⟨ls.toArray⟩), some (.int (n : Int)), some (.ref D), some (vN dear), o5, o6, none, none, none, none] ∧ BS p g H H' D ls (5 * i)) ⟨_, _, rfl, b3⟩ ?_ (fun σ' H' ⟨o5, o6, e, b⟩ => ⟨o5, o6, e, b.wk (by omega)⟩)⟩
      rintro i x σ' H' hx ⟨o5, o6, rfl, b⟩
      have hil := (List.getElem?_eq_some_iff.mp hx).1
      have hxm := List.mem_of_getElem? hx
      -- found[(x, "")] = 1 + ..
      refine ⟨_, rfl, _, rfl, p, g, dear, rfl, b.pl, hd0, by omega, fun c1 H3 f3 P3 hc1 => ⟨_, _, rfl, rfl, _, rfl, _, rfl, by show 2 ≤ sizeLine; decide, fun U1 hU1 => ?_⟩⟩
      have b4 := (b.f f3 P3).fe (Fe.new (o := .tup [s1 x, .str ""]) hU1)
      obtain ⟨H4, hp4, b5⟩ := b4.put (by omega) (r := [x]) (w := []) (by rw [upd_same, str_nil]; rfl) (1 + c1) (by simp) (by simp) ⟨by simpa using hxm, by simp, by simp, by omega, by omega⟩
      have ev1 : V.int (1 + (c1 : Int)) = vN (1 + c1) := by show _ = V.int _; rw [Int.natCast_add]; rfl
      refine ⟨D, H4, rfl, by rw [← ev1] at hp4; exact hp4, ?_⟩
      -- found[("", x)] = 1 + ..
      refine ⟨_, rfl, _, rfl, p, g, dear, rfl, b5.pl, hd0, by omega, fun c2 H5 f5 P5 hc2 => ⟨_, _, rfl, rfl, _, rfl, _, rfl, by show 2 ≤ sizeLine; decide, fun U2 hU2 => ?_⟩⟩
      have b6 := (b5.f f5 P5).fe (Fe.new (o := .tup [.str "", s1 x]) hU2)
      obtain ⟨H6, hp6, b7⟩ := b6.put (by omega) (r := []) (w := [x]) (by rw [upd_same, str_nil]; rfl) (1 + c2) (by simp) (by simp) ⟨by simp, by simpa using hxm, by simp, by omega, by omega⟩
      have ev2 : V.int (1 + (c2 : Int)) = vN (1 + c2) := by show _ = V.int _; rw [Int.natCast_add]; rfl
      refine ⟨D, H6, rfl, by rw [← ev2] at hp6; exact hp6, ?_⟩
      refine ⟨_, rfl, _, rfl, for_str (l := ls) (fun j σ' H' => ∃ o6 : Option V, σ' = [some (.ref p), some (.str ⟨ls.toArray⟩), some (.int (n : Int)), some (.ref D), some (vN dear), some (s1 x), o6, none, none, none, none] ∧ BS p g H H' D ls (5 * i + 2 + j)) ⟨_, rfl, b7⟩ ?_ (fun σ' H' ⟨o6, e, b⟩ => ⟨_, o6, e, b.wk (by omega)⟩)⟩
      rintro j y σ' H7 hy ⟨o6, rfl, b8⟩
      have hjl := (List.getElem?_eq_some_iff.mp hy).1
      have hym := List.mem_of_getElem? hy
      refine ⟨_, rfl, _, rfl, rfl, _, rfl, ?_⟩
      refine ite2 (fun hxy => ?_) (fun _ => ?_)
      have hxy' : x ≠ y := fun z => by rw [z] at hxy; simp at hxy
      · refine ⟨_, rfl, p, g, 2, rfl, b8.pl, by decide, by decide, fun r3 H8 f8 P8 _ => ⟨rfl, _, rfl, ?_⟩⟩
        have b9 := b8.f f8 P8
        refine ite2 (fun _ => ?_) (fun _ => ⟨_, rfl, b9.wk (by omega)⟩)
        refine ⟨_, rfl, _, rfl, p, g, dear, rfl, P8, hd0, by omega, fun c3 H9 f9 P9 hc3 => ⟨_, _, rfl, rfl, _, rfl, _, rfl, _, rfl, by show 2 ≤ sizeLine; decide, fun U3 hU3 => ?_⟩⟩
        have b10 := (b9.f f9 P9).fe (Fe.new (o := .tup [s1 x, s1 y]) hU3)
        obtain ⟨H10, hp10, b11⟩ := b10.put (by omega) (r := [x]) (w := [y]) (by rw [upd_same]; rfl) (1 + c3) (by simp) (by simp) ⟨by simpa using hxm, by simpa using hym, by simpa using hxy', by omega, by omega⟩
        have ev3 : V.int (1 + (c3 : Int)) = vN (1 + c3) := by show _ = V.int _; rw [Int.natCast_add]; rfl
        exact ⟨D, H10, rfl, by rw [← ev3] at hp10; exact hp10, _, rfl, b11.wk (by omega)⟩
      · exact iteF ⟨_, rfl, b8.wk (by omega)⟩
    · rintro σ' H3 ⟨o5, o6, rfl, b3⟩
      refine ⟨_, rfl, _, rfl, _, _, rfl, rfl, p, g, n + 1, rfl, b3.pl, by omega, by omega, fun r H4 f4 P4 hr4 => ⟨_, rfl, by omega, by omega, ?_⟩⟩
      have hcn : (r : Int).toNat = r := by omega
      rw [hcn]
      refine for_range (lo := 0) (n := r) (fun i σ' H' => ∃ o5 o6 o7 o8 o9 : Option V, σ' = [some (.ref p), some (.str ⟨ls.toArray⟩), some (.int (n : Int)), some (.ref D), some (vN dear), o5, o6, o7, o8, o9, none] ∧ BS p g H H' D ls (15 + i)) ⟨_, _, _, _, _, rfl, b3.f f4 P4⟩ ?_ ?_
      · rintro i σ' H' hi ⟨o5, o6, o7, o8, o9, rfl, b⟩
        refine ⟨_, rfl, _, rfl, p, g, ls, 3, rfl, b.pl, hls, by omega, by decide, fun t1 H5 f5 P5 ht1 hl1 => ?_⟩
        have b5 := b.f f5 P5
        refine ⟨_, rfl, _, rfl, p, g, ls, 3, rfl, P5, hls, by omega, by decide, fun t2 H6 f6 P6 ht2 hl2 => ?_⟩
        have b6 := b5.f f6 P6
        refine ⟨_, rfl, _, rfl, rfl, _, rfl, ?_⟩
        refine ite2 (fun hrw => ?_) (fun _ => ⟨_, _, _, _, _, rfl, b6.wk (by omega)⟩)
        have hrw' : t1 ≠ t2 := fun z => by rw [z] at hrw; simp at hrw
        refine ⟨_, rfl, _, rfl, p, g, dear, rfl, P6, hd0, by omega, fun c3 H9 f9 P9 hc3 => ⟨_, _, rfl, rfl, _, rfl, _, rfl, _, rfl, by show 2 ≤ sizeLine; decide, fun U3 hU3 => ?_⟩⟩
        have b10 := (b6.f f9 P9).fe (Fe.new (o := .tup [.str ⟨t1.toArray⟩, .str ⟨t2.toArray⟩]) hU3)
        obtain ⟨H10, hp10, b11⟩ := b10.put (by omega) (r := t1) (w := t2) (by rw [upd_same]; rfl) (1 + c3) hl1 hl2 ⟨ht1, ht2, hrw', by omega, by omega⟩
        have ev3 : V.int (1 + (c3 : Int)) = vN (1 + c3) := by show _ = V.int _; rw [Int.natCast_add]; rfl
        exact ⟨D, H10, rfl, by rw [← ev3] at hp10; exact hp10, _, _, _, _, _, rfl, b11⟩
      · rintro σ' H5 ⟨o5, o6, o7, o8, o9, rfl, b⟩
        obtain ⟨kvs, hDk, db, hkl⟩ := b.kv
        refine ⟨_, rfl, D, .dT kvs, hDk, trivial, fun od => ?_⟩
        have fL : Fx [p, g] H (upd H5 D (.frz od (.dT kvs))) := b.fx.mu b.nD
        have PL : Pl (upd H5 D (.frz od (.dT kvs))) p g := b.pl.put b.nD2
        have hlk : (upd H5 D (.frz od (.dT kvs))) D = some (.frz od (.dT kvs)) := upd_same
        generalize upd H5 D (.frz od (.dT kvs)) = HL at fL PL hlk
        refine ⟨_, rfl, D, od, rfl, .inr ⟨kvs, hlk, fun C hC => lc_by kvs.length (fun i H' => ∃ l : List (List Nat × List Nat × Nat), Cmp rEd HL C l H' ∧ l.length = i ∧ ∀ e ∈ l, e.1.length ≤ 3 ∧ e.2.1.length ≤ 3 ∧ EdOk ls e.1 e.2.1 e.2.2) ⟨[], Cmp.start hC, rfl, fun _ z => nomatch z⟩ (fun i H' hi ⟨l, c, _⟩ => ⟨c.fe.k hlk, hi⟩) (fun H' ⟨l, c, _⟩ => ⟨c.fe.k hlk, Nat.le_refl _⟩) ?_ ?_⟩⟩
        · rintro i xv H' H6 hi ⟨l, c, hll, hlo⟩ ⟨rfl, k, v, q, hkv, rfl, hq⟩
          obtain ⟨r1, w1, c1, hke, h1, h2, h3⟩ := db (k, v) (List.mem_of_getElem? hkv)
          have hk1 : k = eK r1 w1 := congrArg Prod.fst hke
          obtain ⟨v', hv1, hv2⟩ := valV_mem (List.mem_of_getElem? hkv)
          obtain ⟨r2, w2, c2, hke2, h4, h5, h6⟩ := db (k, v') hv2
          have hv' : v' = vN c2 := congrArg Prod.snd hke2
          have hk2 : k = eK r2 w2 := congrArg Prod.fst hke2
          obtain ⟨er, ew⟩ := eK_inj (hk1.symm.trans hk2)
          rw [← er, ← ew] at h6
          subst hk1 hv'
          refine ⟨rfl, _, rfl, _, rfl, _, rfl, D, vN c2, rfl, by rw [← hv1]; exact .inr ⟨kvs, _, q, .inr ⟨od, c.fe.k hlk⟩, rfl, hq, rfl⟩, by show 1 ≤ sizeLine; decide, fun T hT => ?_⟩
          have gT := Fe.new (o := .tup [vN c2]) hT
          refine ⟨q, T, _, _, rfl, rfl, SqT.of (gT.k hq), SqT.of upd_same, (fun z => nomatch z), by show 3 ≤ sizeLine; decide, (fun z => nomatch z), fun _ T2 hT2 => ?_⟩
          have gT2 := Fe.new (o := .tup ((eK r1 w1).map kV ++ [vN c2])) hT2
          obtain ⟨acc, a1, a2, a3⟩ := c.add (x := (r1, w1, c2)) (y := .ref T2) (by omega) (gT.trans gT2) ⟨T2, _, _, _, rfl, upd_same, rfl, rfl, rfl⟩
          refine ⟨acc, a1, a2, _, a3, by rw [List.length_append, List.length_singleton]; omega, fun e he => ?_⟩
          rcases List.mem_append.mp he with he | he
          · exact hlo e he
          · rw [List.mem_singleton.mp he]; exact ⟨h1, h2, h6⟩
        · rintro H6 ⟨l, c, hll, hlo⟩
          refine ⟨c.fe.k hlk, ?_⟩
          obtain ⟨_, vs0, eC, hCv, al⟩ := c.rl
          cases eC
          have nDC : D ≠ C := ne_of_none hlk hC
          have fD : Fx [D] H6 (upd H6 D (.dT kvs)) := Fx.put (c.fe.k hlk) (List.mem_singleton.mpr rfl) (fun _ z => nomatch z)
          have P7 : Pl (upd H6 D (.dT kvs)) p g := (PL.keep c.fe).put b.nD2
          have f7 : Fx [p, g] H (upd H6 D (.dT kvs)) := (fL.trans c.fe.to).mu b.nD
          have hC7 : (upd H6 D (.dT kvs)) C = some (.lst vs0) := by rw [upd_ne nDC.symm]; exact hCv
          have al7 := Al.mo fD al
          generalize upd H6 D (.dT kvs) = H7 at P7 f7 hC7 al7
          obtain ⟨ps, rfl, hpl, hps⟩ := tl_of edK (fun v x h => ed_key h) al7
          refine ⟨C, ps, [true, true, false], rfl, SqL.of hC7, fun pr hpr => ?_, by decide, fun ps' q hperm hq => ?_⟩
          · obtain ⟨e, _, e1, e2⟩ := hps pr hpr
            exact ⟨SqT.of e2, by rw [e1]; rfl⟩
          have gq := Fe.new (o := .lst (ps'.map fun q => V.ref q.1)) hq
          refine ⟨q, _, rfl, .inl ⟨SqL.of upd_same, fun u hu => ⟨by show 2 ≤ sizeLine; decide, fun Z hZ => ?_⟩⟩⟩
          have gu := Fe.new (o := .tup (ps'.map fun q => V.ref q.1)) hu
          have gZ := Fe.new (o := .tup [.str ⟨(ls).toArray⟩, .ref u]) hZ
          have g3 := (gq.trans gu).trans gZ
          obtain ⟨es, q1, q2, q3⟩ := tl_back (r := rEd) (H := upd (upd (upd H7 q (.lst (ps'.map fun q => V.ref q.1))) u (.tup (ps'.map fun q => V.ref q.1))) Z (.tup [.str ⟨(ls).toArray⟩, .ref u])) edK (fun a x h => ed_back h) l ps' fun pr hpr => by
            obtain ⟨e, h1, h2, h3⟩ := hps pr (hperm.mem_iff.mp hpr)
            exact ⟨e, h1, h2, g3.k h3⟩
          have hel : es.length ≤ 30 := by
            have := congrArg List.length q3
            rw [List.length_map, List.length_map, hperm.length_eq] at this
            omega
          refine kk _ es _ (f7.trans g3.to) (P7.keep g3) ⟨Z, _, _, rfl, upd_same, rfl, ⟨u, _, rfl, gZ.k upd_same, q1⟩⟩ ⟨by show es.length ≤ 60; omega, fun e he => (hlo e (q2 e he)).1, fun e he => (hlo e (q2 e he)).2.1, fun e he => (hlo e (q2 e he)).2.2.1, by show ls.length ≤ 100; omega⟩ hel fun e he => (hlo e (q2 e he)).2.2
end
end Fm
namespace Fm
open PySem L2
theorem Fx.k_t {M : List Addr} {H H' H'' : Hp} (g : Fe H' H'') (f : Fx M H H') {t : Addr} {xs : List V} (h : H t = some (.tup xs)) : H'' t = some (.tup xs) := g.k (f.tups _ _ h)
theorem v1 (r : Nat) : V.int (1 + (r : Int)) = vN (1 + r) := by show _ = V.int _; rw [Int.natCast_add]; rfl
theorem DB.merge {ls : List Nat} : ∀ (more : BKV) (kvs : BKV), DB ls kvs → DB ls more → DB ls (mergeT kvs more)
  | [], _, h, _ => h
  | x :: more, kvs, h, hm => DB.merge more (putK kvs x.1 x.2) (fun kv hkv => by
      rcases putK_mem hkv with e | e
      · exact hm kv (by rw [e]; exact List.mem_cons_self)
      · exact h kv e) fun kv hkv => hm kv (List.mem_cons_of_mem _ hkv)
theorem BS.put2 {p g : Addr} {H0 H : Hp} {D U : Addr} {ls : List Nat} {k : Nat} (b : BS p g H0 H D ls k) (hk : k < 1000) {r w : List Nat} (hU : H U = some (.tup ((eK r w).map kV))) (c : Nat) (h1 : r.length ≤ 3) (h2 : w.length ≤ 3) (h3 : EdOk ls r w c) :
    ∃ kvs, DPut H D (.ref U) (vN c) (upd H D (.dT kvs)) ∧ BS p g H0 (upd H D (.dT kvs)) D ls (k + 1) := by
  obtain ⟨kvs, e1, e2, e3⟩ := b.kv
  refine ⟨_, DPut.t e1 hU (by rw [sizeLine_eq]; omega), b.fx.mu b.nD, b.pl.put b.nD2, b.nD, b.nD2, _, upd_same, e2.put c h1 h2 h3, ?_⟩
  have := length_putK kvs (eK r w) (vN c)
  omega
theorem s2_ (a b : Nat) : (⟨#[a]⟩ : Str) ++ ⟨#[b]⟩ = ⟨[a, b].toArray⟩ := SX.S_cat [a] [b]
theorem s3_ (a b c : Nat) : (⟨#[a]⟩ : Str) ++ ⟨#[b]⟩ ++ ⟨#[c]⟩ = ⟨[a, b, c].toArray⟩ := by rw [s2_]; exact SX.S_cat [a, b] [c]
theorem sz2 (a b : Nat) : (⟨#[a]⟩ : Str).length + (⟨#[b]⟩ : Str).length ≤ sizeLine := by show 1 + 1 ≤ sizeLine; decide
theorem sz3 (a b c : Nat) : ((⟨#[a]⟩ : Str) ++ ⟨#[b]⟩).length + (⟨#[c]⟩ : Str).length ≤ sizeLine := by rw [s2_]; show 2 + 1 ≤ sizeLine; decide
def spFull : Sp := fun vs H Q _ => ∃ (p g : Addr) (a b : Nat), vs = [.ref p, s1 a, s1 b] ∧ Pl H p g ∧ a ≠ b ∧ ∀ (v : V) (es : List (List Nat × List Nat × Nat)) (H' : Hp), Fx [p, g] H H' → Pl H' p g → rBook H' v ([a, b], es) → BOk ([a, b], es) → es.length ≤ 30 → (∀ e ∈ es, EdOk [a, b] e.1 e.2.1 e.2.2) → Q v H'
section
variable {P : Program} {w : World} {K : PySem.W.Frag} {g : Str → Option Value} {base : Heap}
theorem ok_law_full (T : Txt K g) : FnOk P w K g base CX0 2 T.d_law_full.f T.d_law_full.fd P_law_full spFull := by
  refine T.d_law_full.F.ok sc_law_full (fun vs H Q E h => ?_) (fun cdv A outer s H vs Q E hr h => ?_)
  · obtain ⟨_, _, _, _, rfl, _⟩ := h
    rfl
  · obtain ⟨p, g, a, b, rfl, hP, hab, kk⟩ := h
    have hu := hu_of hr
    refine ⟨_, (pss_cons (ps_set (i := 3) sc_law_full.nd rfl (by first | exact Or.inl rfl | exact Or.inr rfl) (pe_op op_add pe_int (pe_call (ok_law_draw T) (hr.mono (by decide)) rfl T.d_law_draw.mg T.d_law_draw.kp T.d_law_draw.b .nil pass0 (pa_cons (pv 0) (pa_cons pe_int pa_nil)))))
    (pss_cons (ps_set (i := 4) sc_law_full.nd rfl (by first | exact Or.inl rfl | exact Or.inr rfl) (pe_op op_add pe_int (pe_call (ok_law_draw T) (hr.mono (by decide)) rfl T.d_law_draw.mg T.d_law_draw.kp T.d_law_draw.b .nil pass0 (pa_cons (pv 0) (pa_cons pe_int pa_nil)))))
    (pss_cons (ps_set (i := 5) sc_law_full.nd rfl (by first | exact Or.inl rfl | exact Or.inr rfl) (ke_dispT hr.units0 (pps_cons (pe_tup (pa_cons pe_str (pa_cons (pv 1) pa_nil))) (pv 3) (pps_cons (pe_tup (pa_cons pe_str (pa_cons (pv 2) pa_nil))) (pv 3) (pps_cons (pe_tup (pa_cons (pv 1) (pa_cons pe_str pa_nil))) (pv 4) (pps_cons (pe_tup (pa_cons (pv 2) (pa_cons pe_str pa_nil))) (pv 4) (pps_cons (pe_tup (pa_cons (pv 1) (pa_cons (pv 2) pa_nil))) (pe_op op_sub (pe_op op_add (pv 3) (pv 4)) (pe_call (ok_law_draw T) (hr.mono (by decide)) rfl T.d_law_draw.mg T.d_law_draw.kp T.d_law_draw.b .nil pass0 (pa_cons (pv 0) (pa_cons pe_int pa_nil)))) (pps_cons (pe_tup (pa_cons (pv 2) (pa_cons (pv 1) pa_nil))) (pe_op op_add (pv 3) (pv 4)) pps_nil)))))) (by rfl) (by rfl) (fun z => by cases z) (by decide)))
    (pss_cons (ps_for PassesOwn.never rfl (ki_list (K := K) rfl (pe_lst (pa_cons (pe_tup (pa_cons (pe_op op_add_str (pv 1) (pv 2)) (pa_cons (pe_op op_add_str (pv 2) (pv 1)) pa_nil))) (pa_cons (pe_tup (pa_cons (pe_op op_add_str (pe_op op_add_str (pv 1) (pv 2)) (pv 1)) (pa_cons (pv 2) pa_nil))) (pa_cons (pe_tup (pa_cons (pe_op op_add_str (pv 2) (pv 2)) (pa_cons pe_str pa_nil))) (pa_cons (pe_tup (pa_cons pe_str (pa_cons (pe_op op_add_str (pv 1) (pv 2)) pa_nil))) (pa_cons (pe_tup (pa_cons (pv 2) (pa_cons (pe_op op_add_str (pe_op op_add_str (pv 1) (pv 1)) (pv 2)) pa_nil))) (pa_cons (pe_tup (pa_cons (pe_op op_add_str (pv 1) (pv 1)) (pa_cons (pe_op op_add_str (pv 2) (pv 2)) pa_nil))) pa_nil)))))))) (kg_tup (K := K) 2 rfl rfl (pgs_cons (pg_name (i := 6) sc_law_full.nd rfl (by first | exact Or.inl rfl | exact Or.inr rfl)) (pgs_cons (pg_name (i := 7) sc_law_full.nd rfl (by first | exact Or.inl rfl | exact Or.inr rfl)) pgs_nil)))
      (pss_one (ps_if (pt_cmpR op_eq (pe_call (ok_law_draw T) (hr.mono (by decide)) rfl T.d_law_draw.mg T.d_law_draw.kp T.d_law_draw.b .nil pass0 (pa_cons (pv 0) (pa_cons pe_int pa_nil))) pe_int (nomark _))
        (pss_one (ps_dput hu (pv 5) (pe_tup (pa_cons (pv 6) (pa_cons (pv 7) pa_nil))) (pe_op op_add pe_int (pe_call (ok_law_draw T) (hr.mono (by decide)) rfl T.d_law_draw.mg T.d_law_draw.kp T.d_law_draw.b .nil pass0 (pa_cons (pv 0) (pa_cons pe_int pa_nil)))) rfl))
        pss_nil)))
    (pss_one (ps_ret (pe_tup (pa_cons (pe_op op_add_str (pv 1) (pv 2)) (pa_cons (pe_callTy (kc_tuple (K := K) rfl) (by rfl) T.z_tuple (by decide +kernel) (pa_cons (pe_callB (kc_sortedTL (K := K) rfl) (by rfl) T.z_sorted (by decide +kernel) (pa_cons (pe_lock (pe_lc (own := [("key", 8)]) rfl sc_law_full.nd (pi_keys (pv 5)) (blkOk_by (N := N_law_full) (sc := defScope s_law_full) (by decide +kernel)) (fun _ _ _ _ _ => by exact (pg_name (i := 8) sc_law_full.nd rfl (by first | exact Or.inl rfl | exact Or.inr rfl))) (fun _ _ _ _ _ => by exact pts_nil) (fun _ _ _ _ _ => by exact (pe_op (ko_catT (K := K) rfl) (pv 8) (pe_tup (pa_cons (pe_dget hu (pv 5) (pv 8) (fun _ _ => rfl)) pa_nil)))))) pa_nil)) pa_nil)) pa_nil))))))))), ?_⟩
    refine ⟨_, rfl, p, g, 3, rfl, hP, by decide, by decide, fun r1 H1 f1 P1 hr1 => ⟨_, _, rfl, rfl, ?_⟩⟩
    refine ⟨_, rfl, p, g, 3, rfl, P1, by decide, by decide, fun r2 H2 f2 P2 hr2 => ⟨_, _, rfl, rfl, ?_⟩⟩
    intro D hD
    have nD := P2.nw hD
    have gD := Fe.new (o := .dT []) hD
    have P3 := P2.keep gD
    have f3 : Fx [p, g] H (upd H2 D (.dT [])) := (f1.trans f2).trans gD.to
    have hD0 : H D = none := (f1.trans f2).fr nD hD
    have hDk : (upd H2 D (.dT [])) D = some (.dT []) := upd_same
    generalize upd H2 D (.dT []) = H3 at P3 f3 hDk
    refine ⟨_, rfl, by show 2 ≤ sizeLine; decide, fun U1 h1 => ⟨_, rfl, ?_⟩⟩
    refine ⟨_, rfl, by show 2 ≤ sizeLine; decide, fun U2 h2 => ⟨_, rfl, ?_⟩⟩
    refine ⟨_, rfl, by show 2 ≤ sizeLine; decide, fun U3 h3 => ⟨_, rfl, ?_⟩⟩
    refine ⟨_, rfl, by show 2 ≤ sizeLine; decide, fun U4 h4 => ⟨_, rfl, ?_⟩⟩
    refine ⟨_, rfl, _, rfl, by show 2 ≤ sizeLine; decide, fun U5 h5 => ?_⟩
    have g1 := Fe.new (o := .tup [.str "", s1 a]) h1
    have g2 := Fe.new (o := .tup [.str "", s1 b]) h2
    have g3 := Fe.new (o := .tup [s1 a, .str ""]) h3
    have g4 := Fe.new (o := .tup [s1 b, .str ""]) h4
    have g5 := Fe.new (o := .tup [s1 a, s1 b]) h5
    have g15 := (((g1.trans g2).trans g3).trans g4).trans g5
    have P5 := P3.keep g15
    refine ⟨_, rfl, _, rfl, _, _, rfl, rfl, _, rfl, p, g, 2, rfl, P5, by decide, by decide, fun r3 H5 f5 P5' hr3 => ⟨_, _, rfl, rfl, ?_⟩⟩
    refine ⟨_, rfl, _, rfl, by show 2 ≤ sizeLine; decide, fun U6 h6 => ⟨_, rfl, _, rfl, _, _, rfl, rfl, ?_⟩⟩
    have g6 := Fe.new (o := .tup [s1 b, s1 a]) h6
    have hD5 := g6.k (f5.keep _ _ nD (g15.k hDk))
    have k1 := g6.k_t f5 ((((g2.trans g3).trans g4).trans g5).k (upd_same (a := U1) (o := .tup [.str "", s1 a])))
    have k2 := g6.k_t f5 (((g3.trans g4).trans g5).k (upd_same (a := U2) (o := .tup [.str "", s1 b])))
    have k3 := g6.k_t f5 ((g4.trans g5).k (upd_same (a := U3) (o := .tup [s1 a, .str ""])))
    have k4 := g6.k_t f5 (g5.k (upd_same (a := U4) (o := .tup [s1 b, .str ""])))
    have k5 := g6.k_t f5 (upd_same (a := U5) (o := .tup [s1 a, s1 b]))
    have k6 := upd_same (H := H5) (a := U6) (o := .tup [s1 b, s1 a])
    have P6 := P5'.keep g6
    have f6 := ((f3.trans g15.to).trans f5).trans g6.to
    have ev5 : V.int (1 + (r1 : Int) + (1 + (r2 : Int)) - (r3 : Int)) = vN (1 + r1 + (1 + r2) - r3) := by
      show _ = V.int _
      rw [show ((1 + r1 + (1 + r2) - r3 : Nat) : Int) = 1 + (r1 : Int) + (1 + (r2 : Int)) - (r3 : Int) by omega]
    have ev6 : V.int (1 + (r1 : Int) + (1 + (r2 : Int))) = vN (1 + r1 + (1 + r2)) := by
      show _ = V.int _
      rw [show ((1 + r1 + (1 + r2) : Nat) : Int) = 1 + (r1 : Int) + (1 + (r2 : Int)) by omega]
    generalize upd H5 U6 (.tup [s1 b, s1 a]) = H6 at hD5 k1 k2 k3 k4 k5 k6 P6 f6 ⊢
    clear g1 g2 g3 g4 g5 g15 g6 f5 P5 P5' h1 h2 h3 h4 h5 h6
    refine ⟨hD5, [(eK [] [a], U1, vN (1 + r1)), (eK [] [b], U2, vN (1 + r1)), (eK [a] [], U3, vN (1 + r2)), (eK [b] [], U4, vN (1 + r2)), (eK [a] [b], U5, vN (1 + r1 + (1 + r2) - r3)), (eK [b] [a], U6, vN (1 + r1 + (1 + r2)))], ?_, ?_, by show 6 ≤ 15; decide, ?_⟩
    · show _ = [(V.ref U1, vN (1 + r1)), (V.ref U2, vN (1 + r1)), (V.ref U3, vN (1 + r2)), (V.ref U4, vN (1 + r2)), (V.ref U5, vN (1 + r1 + (1 + r2) - r3)), (V.ref U6, vN (1 + r1 + (1 + r2)))]
      rw [← v1, ← v1, ← ev5, ← ev6]
    · intro t ht
      simp only [List.mem_cons, List.not_mem_nil, or_false] at ht
      rw [str_nil] at k1 k2 k3 k4
      rcases ht with rfl | rfl | rfl | rfl | rfl | rfl
      · exact k1
      · exact k2
      · exact k3
      · exact k4
      · exact k5
      · exact k6
    have db : DB [a, b] (mergeT [] (([(eK [] [a], U1, vN (1 + r1)), (eK [] [b], U2, vN (1 + r1)), (eK [a] [], U3, vN (1 + r2)), (eK [b] [], U4, vN (1 + r2)), (eK [a] [b], U5, vN (1 + r1 + (1 + r2) - r3)), (eK [b] [a], U6, vN (1 + r1 + (1 + r2)))] : List (List Key × Addr × V)).map fun t => (t.1, t.2.2))) := by
      refine DB.merge _ _ (fun _ z => nomatch z) fun kv hkv => ?_
      simp only [List.map_cons, List.map_nil, List.mem_cons, List.not_mem_nil, or_false] at hkv
      rcases hkv with rfl | rfl | rfl | rfl | rfl | rfl
      · exact ⟨[], [a], _, rfl, by simp, by simp, by simp, by simp, by simp, by omega, by omega⟩
      · exact ⟨[], [b], _, rfl, by simp, by simp, by simp, by simp, by simp, by omega, by omega⟩
      · exact ⟨[a], [], _, rfl, by simp, by simp, by simp, by simp, by simp, by omega, by omega⟩
      · exact ⟨[b], [], _, rfl, by simp, by simp, by simp, by simp, by simp, by omega, by omega⟩
      · exact ⟨[a], [b], _, rfl, by simp, by simp, by simp, by simp, by simpa using hab, by omega, by omega⟩
      · exact ⟨[b], [a], _, rfl, by simp, by simp, by simp, by simp, by simpa using hab.symm, by omega, by omega⟩
    have dl := mergeT_len (([(eK [] [a], U1, vN (1 + r1)), (eK [] [b], U2, vN (1 + r1)), (eK [a] [], U3, vN (1 + r2)), (eK [b] [], U4, vN (1 + r2)), (eK [a] [b], U5, vN (1 + r1 + (1 + r2) - r3)), (eK [b] [a], U6, vN (1 + r1 + (1 + r2)))] : List (List Key × Addr × V)).map fun t => (t.1, t.2.2)) []
    generalize mergeT [] (([(eK [] [a], U1, vN (1 + r1)), (eK [] [b], U2, vN (1 + r1)), (eK [a] [], U3, vN (1 + r2)), (eK [b] [], U4, vN (1 + r2)), (eK [a] [b], U5, vN (1 + r1 + (1 + r2) - r3)), (eK [b] [a], U6, vN (1 + r1 + (1 + r2)))] : List (List Key × Addr × V)).map fun t => (t.1, t.2.2)) = kvs at db dl ⊢
    have b0 : BS p g H (upd H6 D (.dT kvs)) D [a, b] 6 := ⟨f6.mu hD0, P6.put nD, hD0, nD, kvs, upd_same, db, dl⟩
    generalize upd H6 D (.dT kvs) = H7 at b0
    clear k1 k2 k3 k4 k5 k6 db dl P6 f6 hD5 ev5 ev6
    have nDL : True := trivial
    refine ⟨_, rfl, _, rfl, _, _, rfl, rfl, (sz2 _ _), _, rfl, _, rfl, _, _, rfl, rfl, (sz2 _ _), by show 2 ≤ sizeLine; decide, fun W0 hW0 => ?_⟩
    have w0 := Fe.new (o := .tup [.str (⟨#[a]⟩ ++ ⟨#[b]⟩), .str (⟨#[b]⟩ ++ ⟨#[a]⟩)]) hW0
    refine ⟨_, rfl, _, rfl, _, _, rfl, rfl, (sz2 _ _), _, rfl, _, _, rfl, rfl, (sz3 _ _ _), _, rfl, by show 2 ≤ sizeLine; decide, fun W1 hW1 => ?_⟩
    have w1 := Fe.new (o := .tup [.str (⟨#[a]⟩ ++ ⟨#[b]⟩ ++ ⟨#[a]⟩), s1 b]) hW1
    refine ⟨_, rfl, _, rfl, _, _, rfl, rfl, (sz2 _ _), by show 2 ≤ sizeLine; decide, fun W2 hW2 => ?_⟩
    have w2 := Fe.new (o := .tup [.str (⟨#[b]⟩ ++ ⟨#[b]⟩), .str ""]) hW2
    refine ⟨_, rfl, _, rfl, _, _, rfl, rfl, (sz2 _ _), by show 2 ≤ sizeLine; decide, fun W3 hW3 => ?_⟩
    have w3 := Fe.new (o := .tup [.str "", .str (⟨#[a]⟩ ++ ⟨#[b]⟩)]) hW3
    refine ⟨_, rfl, _, rfl, _, rfl, _, _, rfl, rfl, (sz2 _ _), _, rfl, _, _, rfl, rfl, (sz3 _ _ _), by show 2 ≤ sizeLine; decide, fun W4 hW4 => ?_⟩
    have w4 := Fe.new (o := .tup [s1 b, .str (⟨#[a]⟩ ++ ⟨#[a]⟩ ++ ⟨#[b]⟩)]) hW4
    refine ⟨_, rfl, _, rfl, _, _, rfl, rfl, (sz2 _ _), _, rfl, _, rfl, _, _, rfl, rfl, (sz2 _ _), by show 2 ≤ sizeLine; decide, fun W5 hW5 => ?_⟩
    have w5 := Fe.new (o := .tup [.str (⟨#[a]⟩ ++ ⟨#[a]⟩), .str (⟨#[b]⟩ ++ ⟨#[b]⟩)]) hW5
    refine ⟨by show 6 ≤ sizeLine; decide, fun L hL => ?_⟩
    have wL := Fe.new (o := .lst [.ref W0, .ref W1, .ref W2, .ref W3, .ref W4, .ref W5]) hL
    have wall := (((((w0.trans w1).trans w2).trans w3).trans w4).trans w5).trans wL
    have b1 := b0.fe wall
    have hprs : Al (rP rS rS) _ [.ref W0, .ref W1, .ref W2, .ref W3, .ref W4, .ref W5] [([a, b], [b, a]), ([a, b, a], [b]), ([b, b], []), ([], [a, b]), ([b], [a, a, b]), ([a, a], [b, b])] := .cons ⟨W0, _, _, rfl, (w1.trans (w2.trans (w3.trans (w4.trans (w5.trans (wL)))))).k upd_same, (congrArg V.str (s2_ a b)), (congrArg V.str (s2_ b a))⟩ (.cons ⟨W1, _, _, rfl, (w2.trans (w3.trans (w4.trans (w5.trans (wL))))).k upd_same, (congrArg V.str (s3_ a b a)), rfl⟩ (.cons ⟨W2, _, _, rfl, (w3.trans (w4.trans (w5.trans (wL)))).k upd_same, (congrArg V.str (s2_ b b)), (congrArg V.str str_nil)⟩ (.cons ⟨W3, _, _, rfl, (w4.trans (w5.trans (wL))).k upd_same, (congrArg V.str str_nil), (congrArg V.str (s2_ a b))⟩ (.cons ⟨W4, _, _, rfl, (w5.trans (wL)).k upd_same, rfl, (congrArg V.str (s3_ a a b))⟩ (.cons ⟨W5, _, _, rfl, (wL).k upd_same, (congrArg V.str (s2_ a a)), (congrArg V.str (s2_ b b))⟩ .nil)))))
    have nL := (b0.fe (((((w0.trans w1).trans w2).trans w3).trans w4).trans w5)).pl.nw hL
    have hDL : D ≠ L := by
      obtain ⟨kvs, hk, _⟩ := (b0.fe (((((w0.trans w1).trans w2).trans w3).trans w4).trans w5)).kv
      exact ne_of_none hk hL
    obtain ⟨HL, hHL⟩ : ∃ X : Hp, X = upd (upd (upd (upd (upd (upd (upd H7 W0 (.tup [.str (⟨#[a]⟩ ++ ⟨#[b]⟩), .str (⟨#[b]⟩ ++ ⟨#[a]⟩)])) W1 (.tup [.str (⟨#[a]⟩ ++ ⟨#[b]⟩ ++ ⟨#[a]⟩), s1 b])) W2 (.tup [.str (⟨#[b]⟩ ++ ⟨#[b]⟩), .str ""])) W3 (.tup [.str "", .str (⟨#[a]⟩ ++ ⟨#[b]⟩)])) W4 (.tup [s1 b, .str (⟨#[a]⟩ ++ ⟨#[a]⟩ ++ ⟨#[b]⟩)])) W5 (.tup [.str (⟨#[a]⟩ ++ ⟨#[a]⟩), .str (⟨#[b]⟩ ++ ⟨#[b]⟩)])) L (.lst [.ref W0, .ref W1, .ref W2, .ref W3, .ref W4, .ref W5]) := ⟨_, rfl⟩
    have hLl : HL L = some (.lst [.ref W0, .ref W1, .ref W2, .ref W3, .ref W4, .ref W5]) := by rw [hHL]; exact upd_same
    rw [← hHL] at b1 hprs ⊢
    clear wall hHL w0 w1 w2 w3 w4 w5 wL hL hW0 hW1 hW2 hW3 hW4 hW5 b0
    refine ⟨L, rfl, ⟨_, SqL.of hLl⟩, for_lst (xs := [.ref W0, .ref W1, .ref W2, .ref W3, .ref W4, .ref W5]) (fun i σ' H' => ∃ o6 o7 : Option V, σ' = [some (.ref p), some (s1 a), some (s1 b), some (.int (1 + (r1 : Int))), some (.int (1 + (r2 : Int))), some (.ref D), o6, o7, none] ∧ BS p g H H' D [a, b] (6 + i) ∧ H' L = some (.lst [.ref W0, .ref W1, .ref W2, .ref W3, .ref W4, .ref W5]) ∧
      Al (rP rS rS) H' [.ref W0, .ref W1, .ref W2, .ref W3, .ref W4, .ref W5] [([a, b], [b, a]), ([a, b, a], [b]), ([b, b], []), ([], [a, b]), ([b], [a, a, b]), ([a, a], [b, b])]) ⟨_, _, rfl, b1, hLl, hprs⟩ (fun i σ' H' _ ⟨_, _, _, _, e, _⟩ => e) ?_ ?_⟩
    · rintro i x σ' H' hx ⟨o6, o7, rfl, bi, hLi, hpi⟩
      have hi6 : i < 6 := (List.getElem?_eq_some_iff.mp hx).1
      obtain ⟨⟨r, w⟩, hrw, hxr⟩ := hpi.get hx
      obtain ⟨u, x1, x2, rfl, hu2, rfl, rfl⟩ := id hxr
      have hmem := List.mem_of_getElem? hrw
      have hok : r.length ≤ 3 ∧ w.length ≤ 3 ∧ (∀ x ∈ r, x ∈ [a, b]) ∧ (∀ x ∈ w, x ∈ [a, b]) ∧ r ≠ w := by
        simp only [List.mem_cons, List.not_mem_nil, or_false, Prod.mk.injEq] at hmem
        rcases hmem with ⟨rfl, rfl⟩ | ⟨rfl, rfl⟩ | ⟨rfl, rfl⟩ | ⟨rfl, rfl⟩ | ⟨rfl, rfl⟩ | ⟨rfl, rfl⟩ <;> simp [hab, hab.symm]
      refine ⟨u, _, rfl, SqT.of hu2, rfl, _, _, rfl, _, _, rfl, rfl, ?_⟩
      refine ⟨_, rfl, p, g, 3, rfl, bi.pl, by decide, by decide, fun r3 H8 f8 P8 _ => ⟨rfl, _, rfl, ?_⟩⟩
      have b2 := bi.f f8 P8
      have hL8 := f8.keep _ _ nL hLi
      have hp8 := Al.mo f8 hpi
      refine ite2 (fun _ => ?_) (fun _ => ⟨_, _, rfl, b2.wk (by omega), hL8, hp8⟩)
      refine ⟨_, rfl, p, g, 4, rfl, P8, by decide, by decide, fun c3 H9 f9 P9 hc3 => ⟨_, _, rfl, rfl, _, rfl, _, rfl, _, rfl, by show 2 ≤ sizeLine; decide, fun U3 hU3 => ?_⟩⟩
      have gU := Fe.new (o := .tup [.str ⟨r.toArray⟩, .str ⟨w.toArray⟩]) hU3
      have b3 := (b2.f f9 P9).fe gU
      obtain ⟨kvs', hp10, b11⟩ := b3.put2 (by omega) (r := r) (w := w) (by rw [upd_same]; rfl) (1 + c3) hok.1 hok.2.1 ⟨hok.2.2.1, hok.2.2.2.1, hok.2.2.2.2, by omega, by omega⟩
      have hDt := b3.kv
      obtain ⟨kv0, hD0k, _⟩ := hDt
      have fD : Fx [D] _ _ := Fx.put (o := .dT kvs') hD0k (List.mem_singleton.mpr rfl) (fun _ z => nomatch z)
      refine ⟨D, _, rfl, by rw [← v1] at hp10; exact hp10, _, _, rfl, b11.wk (by omega), ?_, Al.mo fD (Al.mo gU (Al.mo f9 hp8))⟩
      rw [upd_ne hDL.symm]
      exact gU.k (f9.keep _ _ nL hL8)
    · rintro σ' H8 ⟨o6, o7, rfl, bi, hLi, hpi⟩
      have bi : BS p g H H8 D [a, b] 12 := bi
      obtain ⟨kvs, hDk, db, hkl⟩ := bi.kv
      refine ⟨_, rfl, _, rfl, _, _, rfl, rfl, sz2 a b, D, .dT kvs, hDk, trivial, fun od => ?_⟩
      have fL : Fx [p, g] H (upd H8 D (.frz od (.dT kvs))) := bi.fx.mu bi.nD
      have PL : Pl (upd H8 D (.frz od (.dT kvs))) p g := bi.pl.put bi.nD2
      have hlk : (upd H8 D (.frz od (.dT kvs))) D = some (.frz od (.dT kvs)) := upd_same
      generalize upd H8 D (.frz od (.dT kvs)) = HL at fL PL hlk
      refine ⟨_, rfl, D, od, rfl, .inr ⟨kvs, hlk, fun C hC => lc_by kvs.length (fun i H' => ∃ l : List (List Nat × List Nat × Nat), Cmp rEd HL C l H' ∧ l.length = i ∧ ∀ e ∈ l, e.1.length ≤ 3 ∧ e.2.1.length ≤ 3 ∧ EdOk [a, b] e.1 e.2.1 e.2.2) ⟨[], Cmp.start hC, rfl, fun _ z => nomatch z⟩ (fun i H' hi ⟨l, c, _⟩ => ⟨c.fe.k hlk, hi⟩) (fun H' ⟨l, c, _⟩ => ⟨c.fe.k hlk, Nat.le_refl _⟩) ?_ ?_⟩⟩
      · rintro i xv H' H6 hi ⟨l, c, hll, hlo⟩ ⟨rfl, k, v, q, hkv, rfl, hq⟩
        obtain ⟨r1, w1, c1, hke, h1, h2, h3⟩ := db (k, v) (List.mem_of_getElem? hkv)
        have hk1 : k = eK r1 w1 := congrArg Prod.fst hke
        obtain ⟨v', hv1, hv2⟩ := valV_mem (List.mem_of_getElem? hkv)
        obtain ⟨r2, w2, c2, hke2, h4, h5, h6⟩ := db (k, v') hv2
        have hv' : v' = vN c2 := congrArg Prod.snd hke2
        have hk2 : k = eK r2 w2 := congrArg Prod.fst hke2
        obtain ⟨er, ew⟩ := eK_inj (hk1.symm.trans hk2)
        rw [← er, ← ew] at h6
        subst hk1 hv'
        refine ⟨rfl, _, rfl, _, rfl, _, rfl, D, vN c2, rfl, by rw [← hv1]; exact .inr ⟨kvs, _, q, .inr ⟨od, c.fe.k hlk⟩, rfl, hq, rfl⟩, by show 1 ≤ sizeLine; decide, fun T hT => ?_⟩
        have gT := Fe.new (o := .tup [vN c2]) hT
        refine ⟨q, T, _, _, rfl, rfl, SqT.of (gT.k hq), SqT.of upd_same, (fun z => nomatch z), by show 3 ≤ sizeLine; decide, (fun z => nomatch z), fun _ T2 hT2 => ?_⟩
        have gT2 := Fe.new (o := .tup ((eK r1 w1).map kV ++ [vN c2])) hT2
        obtain ⟨acc, a1, a2, a3⟩ := c.add (x := (r1, w1, c2)) (y := .ref T2) (by omega) (gT.trans gT2) ⟨T2, _, _, _, rfl, upd_same, rfl, rfl, rfl⟩
        refine ⟨acc, a1, a2, _, a3, by rw [List.length_append, List.length_singleton]; omega, fun e he => ?_⟩
        rcases List.mem_append.mp he with he | he
        · exact hlo e he
        · rw [List.mem_singleton.mp he]; exact ⟨h1, h2, h6⟩
      · rintro H6 ⟨l, c, hll, hlo⟩
        refine ⟨c.fe.k hlk, ?_⟩
        obtain ⟨_, vs0, eC, hCv, al⟩ := c.rl
        cases eC
        have nDC : D ≠ C := ne_of_none hlk hC
        have fD : Fx [D] H6 (upd H6 D (.dT kvs)) := Fx.put (c.fe.k hlk) (List.mem_singleton.mpr rfl) (fun _ z => nomatch z)
        have P7 : Pl (upd H6 D (.dT kvs)) p g := (PL.keep c.fe).put bi.nD2
        have f7 : Fx [p, g] H (upd H6 D (.dT kvs)) := (fL.trans c.fe.to).mu bi.nD
        have hC7 : (upd H6 D (.dT kvs)) C = some (.lst vs0) := by rw [upd_ne nDC.symm]; exact hCv
        have al7 := Al.mo fD al
        generalize upd H6 D (.dT kvs) = H7 at P7 f7 hC7 al7
        obtain ⟨ps, rfl, hpl, hps⟩ := tl_of edK (fun v x h => ed_key h) al7
        refine ⟨C, ps, [true, true, false], rfl, SqL.of hC7, fun pr hpr => ?_, by decide, fun ps' q hperm hq => ?_⟩
        · obtain ⟨e, _, e1, e2⟩ := hps pr hpr
          exact ⟨SqT.of e2, by rw [e1]; rfl⟩
        have gq := Fe.new (o := .lst (ps'.map fun q => V.ref q.1)) hq
        refine ⟨q, _, rfl, .inl ⟨SqL.of upd_same, fun u hu => ⟨by show 2 ≤ sizeLine; decide, fun Z hZ => ?_⟩⟩⟩
        have gu := Fe.new (o := .tup (ps'.map fun q => V.ref q.1)) hu
        have gZ := Fe.new (o := .tup [.str (⟨#[a]⟩ ++ ⟨#[b]⟩), .ref u]) hZ
        have g3 := (gq.trans gu).trans gZ
        obtain ⟨es, q1, q2, q3⟩ := tl_back (r := rEd) (H := upd (upd (upd H7 q (.lst (ps'.map fun q => V.ref q.1))) u (.tup (ps'.map fun q => V.ref q.1))) Z (.tup [.str (⟨#[a]⟩ ++ ⟨#[b]⟩), .ref u])) edK (fun a x h => ed_back h) l ps' fun pr hpr => by
          obtain ⟨e, h1, h2, h3⟩ := hps pr (hperm.mem_iff.mp hpr)
          exact ⟨e, h1, h2, g3.k h3⟩
        have hel : es.length ≤ 30 := by
          have := congrArg List.length q3
          rw [List.length_map, List.length_map, hperm.length_eq] at this
          omega
        refine kk _ es _ (f7.trans g3.to) (P7.keep g3) ⟨Z, _, _, rfl, upd_same, congrArg V.str (s2_ a b), ⟨u, _, rfl, gZ.k upd_same, q1⟩⟩ ⟨by show es.length ≤ 60; omega, fun e he => (hlo e (q2 e he)).1, fun e he => (hlo e (q2 e he)).2.1, fun e he => (hlo e (q2 e he)).2.2.1, by show 2 ≤ 100; decide⟩ hel fun e he => (hlo e (q2 e he)).2.2
end
end Fm
/-! the law -/
namespace Fm
open PySem L2
def spLaw (K : PySem.W.Frag) : Sp := fun vs H Q _ => ∃ (a : Addr) (ns : List Int), vs = [.ref a] ∧ SqL K H a (ns.map V.int) ∧ ns.length ≤ 63 ∧ ∀ H', Q (.bl true) H'
/-- a book and a machine of the law's making -/
theorem pok_of {ls : List Nat} {es : List (List Nat × List Nat × Nat)} {m : Mach} (hb : BOk (ls, es)) (h30 : es.length ≤ 30) (nd : ls.Nodup) (mo : MOk m) (few : m.1 ≤ 20) (ms : ∀ s ∈ m.2.2, s.2.1 ∈ ls) : POk (ls, es) m := ⟨hb, mo, by omega, nd, ms, rsb_30 hb h30⟩
theorem mok_none {m : Mach} (h : MOk m) : MOk (m.1, [], m.2.2) := ⟨h.pos, h.few, (fun _ z => nomatch z), h.st, h.fewS⟩
section
variable {P : Program} {w : World} {K : PySem.W.Frag} {g : Str → Option Value} {base : Heap}
theorem ok_law (T : Txt K g) : FnOk P w K g base CX0 10 T.d_law.f T.d_law.fd P_law (spLaw K) := by
  refine T.d_law.F.ok sc_law (fun vs H Q E h => ?_) (fun cdv A outer s H vs Q E hr h => ?_)
  · obtain ⟨_, _, rfl, _⟩ := h
    rfl
  · obtain ⟨sa, ns, rfl, hs, hlen, kk⟩ := h
    have hu := hu_of hr
    refine ⟨_, (pss_cons (ps_set (i := 1) sc_law.nd rfl (by first | exact Or.inl rfl | exact Or.inr rfl) (pe_call (ok_law_pool T) (hr.mono (by decide)) rfl T.d_law_pool.mg T.d_law_pool.kp T.d_law_pool.b .nil pass0 (pa_cons (pv 0) pa_nil)))
    (pss_cons (ps_for PassesOwn.never rfl (pi_range1 rfl T.z_range (pa_cons pe_int pa_nil)) (pg_name (i := 2) sc_law.nd rfl (by first | exact Or.inl rfl | exact Or.inr rfl))
      (pss_cons (ps_asg (pe_call (ok_law_pair T) (hr.mono (by decide)) rfl T.d_law_pair.mg T.d_law_pair.kp T.d_law_pair.b .nil pass0 (pa_cons (pv 1) pa_nil)) (kg_unl (K := K) 2 rfl rfl (pgs_cons (pg_name (i := 3) sc_law.nd rfl (by first | exact Or.inl rfl | exact Or.inr rfl)) (pgs_cons (pg_name (i := 4) sc_law.nd rfl (by first | exact Or.inl rfl | exact Or.inr rfl)) pgs_nil))))
      (pss_one (ps_if (pt_not (pt_val (pe_call (ok_law_asked T) (hr.mono (by decide)) rfl T.d_law_asked.mg T.d_law_asked.kp T.d_law_asked.b .nil pass0 (pa_cons (pv 1) (pa_cons (pe_call (ok_law_full T) (hr.mono (by decide)) rfl T.d_law_full.mg T.d_law_full.kp T.d_law_full.b .nil pass0 (pa_cons (pv 1) (pa_cons (pv 3) (pa_cons (pv 4) pa_nil)))) (pa_cons (pe_call (ok_law_house T) (hr.mono (by decide)) rfl T.d_law_house.mg T.d_law_house.kp T.d_law_house.b .nil pass0 (pa_cons (pv 1) (pa_cons (pv 3) (pa_cons (pv 4) pa_nil)))) (pa_cons (pe_call (ok_law_text T) (hr.mono (by decide)) rfl T.d_law_text.mg T.d_law_text.kp T.d_law_text.b .nil pass0 (pa_cons (pv 1) (pa_cons (pe_op op_add_str (pv 3) (pv 4)) (pa_cons pe_int pa_nil)))) (pa_cons pe_int pa_nil))))))))
        (pss_one (ps_ret pe_bl))
        pss_nil))))
    (pss_cons (ps_set (i := 5) sc_law.nd rfl (by first | exact Or.inl rfl | exact Or.inr rfl) (pe_call (ok_law_letters T) (hr.mono (by decide)) rfl T.d_law_letters.mg T.d_law_letters.kp T.d_law_letters.b .nil pass0 (pa_cons (pv 1) (pa_cons pe_int pa_nil))))
    (pss_cons (ps_if (pt_not (pt_val (pe_call (ok_law_asked T) (hr.mono (by decide)) rfl T.d_law_asked.mg T.d_law_asked.kp T.d_law_asked.b .nil pass0 (pa_cons (pv 1) (pa_cons (pe_call (ok_law_book T) (hr.mono (by decide)) rfl T.d_law_book.mg T.d_law_book.kp T.d_law_book.b .nil pass0 (pa_cons (pv 1) (pa_cons (pv 5) (pa_cons pe_int pa_nil)))) (pa_cons (pe_call (ok_law_machine T) (hr.mono (by decide)) rfl T.d_law_machine.mg T.d_law_machine.kp T.d_law_machine.b .nil pass0 (pa_cons (pv 1) (pa_cons (pv 5) (pa_cons pe_int pa_nil)))) (pa_cons (pe_call (ok_law_text T) (hr.mono (by decide)) rfl T.d_law_text.mg T.d_law_text.kp T.d_law_text.b .nil pass0 (pa_cons (pv 1) (pa_cons (pv 5) (pa_cons pe_int pa_nil)))) (pa_cons pe_int pa_nil))))))))
      (pss_one (ps_ret pe_bl))
      pss_nil)
    (pss_cons (ps_asg (pe_call (ok_law_machine T) (hr.mono (by decide)) rfl T.d_law_machine.mg T.d_law_machine.kp T.d_law_machine.b .nil pass0 (pa_cons (pv 1) (pa_cons (pv 5) (pa_cons pe_int pa_nil)))) (kg_tup (K := K) 3 rfl rfl (pgs_cons (pg_name (i := 6) sc_law.nd rfl (by first | exact Or.inl rfl | exact Or.inr rfl)) (pgs_cons (pg_name (i := 7) sc_law.nd rfl (by first | exact Or.inl rfl | exact Or.inr rfl)) (pgs_cons (pg_name (i := 8) sc_law.nd rfl (by first | exact Or.inl rfl | exact Or.inr rfl)) pgs_nil)))))
    (pss_cons (ps_if (pt_not (pt_val (pe_call (ok_law_asked T) (hr.mono (by decide)) rfl T.d_law_asked.mg T.d_law_asked.kp T.d_law_asked.b .nil pass0 (pa_cons (pv 1) (pa_cons (pe_call (ok_law_book T) (hr.mono (by decide)) rfl T.d_law_book.mg T.d_law_book.kp T.d_law_book.b .nil pass0 (pa_cons (pv 1) (pa_cons (pv 5) (pa_cons pe_int pa_nil)))) (pa_cons (pe_tup (pa_cons (pv 6) (pa_cons (pe_tup pa_nil) (pa_cons (pv 8) pa_nil)))) (pa_cons (pe_call (ok_law_text T) (hr.mono (by decide)) rfl T.d_law_text.mg T.d_law_text.kp T.d_law_text.b .nil pass0 (pa_cons (pv 1) (pa_cons (pv 5) (pa_cons pe_int pa_nil)))) (pa_cons pe_int pa_nil))))))))
      (pss_one (ps_ret pe_bl))
      pss_nil)
    (pss_cons (ps_if (pt_cmpR op_eq (pe_call (ok_law_draw T) (hr.mono (by decide)) rfl T.d_law_draw.mg T.d_law_draw.kp T.d_law_draw.b .nil pass0 (pa_cons (pv 1) (pa_cons pe_int pa_nil))) pe_int (nomark _))
      (pss_cons (ps_asg (pe_call (ok_law_pair T) (hr.mono (by decide)) rfl T.d_law_pair.mg T.d_law_pair.kp T.d_law_pair.b .nil pass0 (pa_cons (pv 1) pa_nil)) (kg_unl (K := K) 2 rfl rfl (pgs_cons (pg_name (i := 3) sc_law.nd rfl (by first | exact Or.inl rfl | exact Or.inr rfl)) (pgs_cons (pg_name (i := 4) sc_law.nd rfl (by first | exact Or.inl rfl | exact Or.inr rfl)) pgs_nil))))
      (pss_cons (ps_set (i := 9) sc_law.nd rfl (by first | exact Or.inl rfl | exact Or.inr rfl) pe_str)
      (pss_cons (ps_set (i := 10) sc_law.nd rfl (by first | exact Or.inl rfl | exact Or.inr rfl) (pe_op op_add pe_int (pe_call (ok_law_draw T) (hr.mono (by decide)) rfl T.d_law_draw.mg T.d_law_draw.kp T.d_law_draw.b .nil pass0 (pa_cons (pv 1) (pa_cons pe_int pa_nil)))))
      (pss_cons (ps_while PassesOwn.never (pt_cmpR op_lt (pe_callB kc_lenS (by rfl) T.z_len PySem.boot_len (pa_cons (pv 9) pa_nil)) (pv 10) (nomark _))
        (pss_one (ps_set (i := 9) sc_law.nd rfl (by first | exact Or.inl rfl | exact Or.inr rfl) (pe_op op_add_str (pv 9) (pe_ix (kx_list (K := K) rfl) (pe_lst (pa_cons (pe_op op_add_str (pv 3) (pv 4)) (pa_cons (pe_op op_add_str (pe_op op_add_str (pv 3) (pv 3)) (pv 4)) (pa_cons (pv 3) (pa_cons (pv 4) pa_nil))))) (pe_call (ok_law_draw T) (hr.mono (by decide)) rfl T.d_law_draw.mg T.d_law_draw.kp T.d_law_draw.b .nil pass0 (pa_cons (pv 1) (pa_cons pe_int pa_nil))) (fun _ _ => rfl))))))
      (pss_one (ps_ret (pe_call (ok_law_asked T) (hr.mono (by decide)) rfl T.d_law_asked.mg T.d_law_asked.kp T.d_law_asked.b .nil pass0 (pa_cons (pv 1) (pa_cons (pe_call (ok_law_full T) (hr.mono (by decide)) rfl T.d_law_full.mg T.d_law_full.kp T.d_law_full.b .nil pass0 (pa_cons (pv 1) (pa_cons (pv 3) (pa_cons (pv 4) pa_nil)))) (pa_cons (pe_call (ok_law_house T) (hr.mono (by decide)) rfl T.d_law_house.mg T.d_law_house.kp T.d_law_house.b .nil pass0 (pa_cons (pv 1) (pa_cons (pv 3) (pa_cons (pv 4) pa_nil)))) (pa_cons (pv 9) (pa_cons pe_int pa_nil))))))))))))
      pss_nil)
    (pss_one (ps_ret pe_bl))))))))), ?_⟩
    refine ⟨_, rfl, sa, ns, rfl, hs, hlen, fun p g H1 e1 hp hg P1 => ?_⟩
    refine ⟨_, rfl, by decide, by decide, for_range (lo := 0) (n := 2) (fun i σ' H' => ∃ o2 o3 o4 : Option V, σ' = [some (.ref sa), some (.ref p), o2, o3, o4, none, none, none, none, none, none] ∧ Pl H' p g) ⟨_, _, _, rfl, P1⟩ ?_ ?_⟩
    · rintro i σ' H3 hi ⟨o2, o3, o4, rfl, P3⟩
      refine ⟨_, rfl, p, g, rfl, P3, fun q a b H4 f4 P4 hq hab => ⟨q, _, rfl, SqL.of hq, rfl, _, _, rfl, _, _, rfl, rfl, ?_⟩⟩
      refine ⟨_, rfl, _, rfl, _, rfl, _, rfl, p, g, a, b, rfl, P4, hab, fun vb es H5 f5 P5 hb5 bo h30 hed => ?_⟩
      refine ⟨_, rfl, _, rfl, _, rfl, p, g, a, b, rfl, P5, fun vm m H6 f6 P6 hm6 mo m5 ms m10 mE => ?_⟩
      refine ⟨_, rfl, _, rfl, _, rfl, _, _, rfl, rfl, sz2 _ _, p, g, [a, b], 5, congrArg (fun z => [V.ref p, V.str z, V.int 5]) (s2_ a b), P6, (fun z => nomatch z), by show 2 ≤ 1000; decide, by decide, fun t H7 f7 P7 ht hl => ?_⟩
      refine ⟨p, g, ([a, b], es), m, t, 5, vb, vm, rfl, P7, Mo.mo (r := rBook) (f6.trans f7) hb5, Mo.mo (r := rMach) f7 hm6, pok_of bo h30 (by simp [hab]) mo (by omega) ms, by omega, fun e he => (hed e he).2.2.2.2, ht, by omega, by decide, fun H8 f8 P8 => ⟨_, rfl, iteF ?_⟩⟩
      exact ⟨_, _, _, rfl, P8⟩
    · rintro σ' H3 ⟨o2, o3, o4, rfl, P3⟩
      refine ⟨_, rfl, p, g, 2, rfl, P3, by decide, by decide, fun ls H4 f4 P4 nd hls hl3 => ?_⟩
      refine ⟨_, rfl, _, rfl, _, rfl, p, g, ls, 5, rfl, P4, hls, by omega, by decide, fun vb es H5 f5 P5 hb5 bo h30 hed => ?_⟩
      refine ⟨_, rfl, _, rfl, p, g, ls, 3, rfl, P5, hls, by omega, by decide, by decide, fun vm m H6 f6 P6 hm6 mo m4 ms m10 mE => ?_⟩
      refine ⟨_, rfl, _, rfl, p, g, ls, 4, rfl, P6, hls, by omega, by decide, fun t H7 f7 P7 ht hl => ?_⟩
      refine ⟨p, g, (ls, es), m, t, 5, vb, vm, rfl, P7, Mo.mo (r := rBook) (f6.trans f7) hb5, Mo.mo (r := rMach) f7 hm6, pok_of bo h30 nd mo (by omega) ms, by omega, fun e he => (hed e he).2.2.2.2, ht, by omega, by decide, fun H8 f8 P8 => ⟨_, rfl, iteF ?_⟩⟩
      -- no ends
      refine ⟨_, rfl, _, rfl, p, g, ls, 3, rfl, P8, hls, by omega, by decide, by decide, fun vm m H9 f9 P9 hm9 mo m4 ms m10 mE => ?_⟩
      obtain ⟨ma, vst, ven, vsp, rfl, hma, rfl, hen, hsp⟩ := id hm9
      refine ⟨ma, _, rfl, SqT.of hma, rfl, _, _, rfl, _, _, rfl, _, _, rfl, rfl, ?_⟩
      refine ⟨_, rfl, _, rfl, _, rfl, p, g, ls, 5, rfl, P9, hls, by omega, by decide, fun vb es HA fA PA hbA bo h30 hed => ?_⟩
      refine ⟨_, rfl, Nat.zero_le _, fun U0 hU0 => ⟨_, rfl, by show 3 ≤ sizeLine; decide, fun U1 hU1 => ?_⟩⟩
      have g0 := Fe.new (o := .tup []) hU0
      have g1 := Fe.new (o := .tup [.int (m.1 : Int), .ref U0, vsp]) hU1
      have g01 := g0.trans g1
      have hmN : rMach (upd (upd HA U0 (.tup [])) U1 (.tup [.int (m.1 : Int), .ref U0, vsp])) (.ref U1) (m.1, [], m.2.2) := ⟨U1, _, _, _, rfl, upd_same, rfl, ⟨U0, [], rfl, g1.k upd_same, .nil⟩, Mo.mo (r := rT rStep) (fA.trans g01.to) hsp⟩
      have PB := PA.keep g01
      have hbB := Mo.mo (r := rBook) g01 hbA
      generalize upd (upd HA U0 (.tup [])) U1 (.tup [.int (m.1 : Int), .ref U0, vsp]) = HB at hmN PB hbB ⊢
      refine ⟨_, rfl, _, rfl, p, g, ls, 3, rfl, PB, hls, by omega, by decide, fun t HC fC PC ht hl => ?_⟩
      refine ⟨p, g, (ls, es), (m.1, [], m.2.2), t, 3, vb, .ref U1, rfl, PC, Mo.mo (r := rBook) fC hbB, Mo.mo (r := rMach) fC hmN, pok_of bo h30 nd (mok_none mo) (by show m.1 ≤ 20; omega) ms, by show m.2.2.length < 60; omega, fun e he => (hed e he).2.2.2.2, ht, by omega, by decide, fun HD fD PD => ⟨_, rfl, iteF ?_⟩⟩
      refine ⟨_, rfl, p, g, 11, rfl, PD, by decide, by decide, fun r H4 f4 P4 _ => ⟨rfl, _, rfl, ?_⟩⟩
      refine ite2 (fun _ => ?_) (fun _ => kk _)
      refine ⟨_, rfl, p, g, rfl, P4, fun q a b H5 f5 P5 hq hab => ⟨q, _, rfl, SqL.of hq, rfl, _, _, rfl, _, _, rfl, rfl, ?_⟩⟩
      refine ⟨_, rfl, p, g, 18, rfl, P5, by decide, by decide, fun r2 H6 f6 P6 hr2 => ⟨_, _, rfl, rfl, ?_⟩⟩
      refine ⟨fun k σ' H' => ∃ (t : List Nat) (o2 o5 o6 o7 o8 : Option V), σ' = [some (.ref sa), some (.ref p), o2, some (s1 a), some (s1 b), o5, o6, o7, o8, some (.str ⟨t.toArray⟩), some (.int (20 + (r2 : Int)))] ∧ Pl H' p g ∧ (∀ x ∈ t, x ∈ [a, b]) ∧ t.length ≤ 20 + r2 + 2 ∧ k = 20 + r2 + 2 - t.length, ⟨_, [], _, _, _, _, _, by rw [← str_nil]; rfl, P6, (fun _ z => nomatch z), by show 0 ≤ _; omega, rfl⟩, ?_⟩
      rintro k σ' H7 ⟨t, o2, o5, o6, o7, o8, rfl, P7, ht, hl, rfl⟩
      refine ⟨_, rfl, _, rfl, by rw [slen, sizeLine_eq]; omega, _, rfl, _, _, rfl, rfl, _, rfl, ?_⟩
      have hsl : (((⟨t.toArray⟩ : Str).length : Nat) : Int) = (t.length : Int) := by rw [slen]
      refine ite2 (fun hc => ?_) (fun hc => ?_)
      · have hlt : t.length < 20 + r2 := by
          have := of_decide_eq_true hc
          rw [hsl] at this
          omega
        refine ⟨_, fun _ _ h => h, ?_⟩
        refine ⟨_, rfl, _, rfl, _, rfl, _, _, rfl, rfl, sz2 _ _, _, rfl, _, rfl, _, _, rfl, rfl, sz2 _ _, _, rfl, _, _, rfl, rfl, sz3 _ _ _, _, rfl, _, rfl, by show 4 ≤ sizeLine; decide, fun L hL => ?_⟩
        have gL := Fe.new (o := .lst [.str (⟨#[a]⟩ ++ ⟨#[b]⟩), .str (⟨#[a]⟩ ++ ⟨#[a]⟩ ++ ⟨#[b]⟩), s1 a, s1 b]) hL
        have nL := P7.nw hL
        refine ⟨_, rfl, p, g, 4, rfl, P7.keep gL, by decide, by decide, fun j H8 f8 P8 hj => ?_⟩
        have hL8 := f8.keep _ _ nL (upd_same (o := HO.lst [.str (⟨#[a]⟩ ++ ⟨#[b]⟩), .str (⟨#[a]⟩ ++ ⟨#[a]⟩ ++ ⟨#[b]⟩), s1 a, s1 b]))
        obtain ⟨u, hu1, hu2, hu3, hu4⟩ : ∃ u : List Nat, ([.str (⟨#[a]⟩ ++ ⟨#[b]⟩), .str (⟨#[a]⟩ ++ ⟨#[a]⟩ ++ ⟨#[b]⟩), s1 a, s1 b] : List V)[j]? = some (.str ⟨u.toArray⟩) ∧ 1 ≤ u.length ∧ u.length ≤ 3 ∧ ∀ x ∈ u, x ∈ [a, b] := by
          rcases (by omega : j = 0 ∨ j = 1 ∨ j = 2 ∨ j = 3) with rfl | rfl | rfl | rfl
          · exact ⟨[a, b], congrArg (fun z => some (V.str z)) (s2_ a b), by simp, by simp, by simp⟩
          · exact ⟨[a, a, b], congrArg (fun z => some (V.str z)) (s3_ a a b), by simp, by simp, by simp⟩
          · exact ⟨[a], rfl, by simp, by simp, by simp⟩
          · exact ⟨[b], rfl, by simp, by simp, by simp⟩
        refine ⟨L, _, _, _, rfl, rfl, SqL.of hL8, atI_nat hu1, _, _, rfl, rfl, by rw [slen, slen, sizeLine_eq]; omega, 20 + r2 + 2 - (t ++ u).length, ?_, t ++ u, o2, o5, o6, o7, o8, ?_, P8, fun x hx => ?_, by rw [List.length_append]; omega, rfl⟩
        · rw [List.length_append]; omega
        · have e := SX.S_cat t u
          rw [show (⟨(t ++ u).toArray⟩ : Str) = ⟨t.toArray⟩ ++ ⟨u.toArray⟩ from e.symm]
          rfl
        · rcases List.mem_append.mp hx with hx | hx
          · exact ht x hx
          · exact hu4 x hx
      · refine ⟨_, rfl, _, rfl, _, rfl, _, rfl, p, g, a, b, rfl, P7, hab, fun vb es H8 f8 P8 hb8 bo h30 hed => ?_⟩
        refine ⟨_, rfl, _, rfl, _, rfl, p, g, a, b, rfl, P8, fun vm m H9 f9 P9 hm9 mo m5 ms m10 mE => ?_⟩
        exact ⟨_, rfl, p, g, ([a, b], es), m, t, 2, vb, vm, rfl, P9, Mo.mo (r := rBook) f9 hb8, hm9, pok_of bo h30 (by simp [hab]) mo (by omega) ms, by omega, fun e he => (hed e he).2.2.2.2, ht, by omega, by decide, fun HA fA PA => kk HA⟩
end
end Fm
/-! what the top has written, and the law's walk -/
namespace Fm
open PySem L2
theorem all_mk {l : PySem.W.OpenLaw} {w : World} {K : PySem.W.Frag} {h : Heap} {mg : Str → Option Value} {fa c_MoveWeb f_is_whole f_steps_by_state f_states_behind f_states_along f_rests_of f_MoveWeb_init f_MoveWeb_put_moves f_MoveWeb_put_edits f_MoveWeb_is_end f_MoveWeb_ends f_MoveWeb_closed f_MoveWeb_begun f_MoveWeb_behind f_MoveWeb_least_end f_least_of f_floor_paper f_are_floor_rows f_keeps_moves f_is_floor f_law_pool f_law_draw f_law_letters f_law_text f_law_book f_law_machine f_law_house f_law_full f_law_pair f_law_standings f_law_moves f_law_least f_law_integer f_law_is_floor f_law_own_floors f_law_bent f_law_asked f_law : Addr} (X : K.In h) (G : h.Ns mainGlobals mg) (hfa : mg "law" = some (.ref fa))
    {od_is_whole an_is_whole od_steps_by_state an_steps_by_state od_states_behind an_states_behind od_states_along an_states_along od_rests_of an_rests_of od_MoveWeb_init an_MoveWeb_init od_MoveWeb_put_moves an_MoveWeb_put_moves od_MoveWeb_put_edits an_MoveWeb_put_edits od_MoveWeb_is_end an_MoveWeb_is_end od_MoveWeb_ends an_MoveWeb_ends od_MoveWeb_closed an_MoveWeb_closed od_MoveWeb_begun an_MoveWeb_begun od_MoveWeb_behind an_MoveWeb_behind od_MoveWeb_least_end an_MoveWeb_least_end od_least_of an_least_of od_floor_paper an_floor_paper od_are_floor_rows an_are_floor_rows od_keeps_moves an_keeps_moves od_is_floor an_is_floor od_law_pool an_law_pool od_law_draw an_law_draw od_law_letters an_law_letters od_law_text an_law_text od_law_book an_law_book od_law_machine an_law_machine od_law_house an_law_house od_law_full an_law_full od_law_pair an_law_pair od_law_standings an_law_standings od_law_moves an_law_moves od_law_least an_law_least od_law_integer an_law_integer od_law_is_floor an_law_is_floor od_law_own_floors an_law_own_floors od_law_bent an_law_bent od_law_asked an_law_asked od_law an_law : Option Addr} {sl_is_whole sl_steps_by_state sl_states_behind sl_states_along sl_rests_of sl_MoveWeb_init sl_MoveWeb_put_moves sl_MoveWeb_put_edits sl_MoveWeb_is_end sl_MoveWeb_ends sl_MoveWeb_closed sl_MoveWeb_begun sl_MoveWeb_behind sl_MoveWeb_least_end sl_least_of sl_floor_paper sl_are_floor_rows sl_keeps_moves sl_is_floor sl_law_pool sl_law_draw sl_law_letters sl_law_text sl_law_book sl_law_machine sl_law_house sl_law_full sl_law_pair sl_law_standings sl_law_moves sl_law_least sl_law_integer sl_law_is_floor sl_law_own_floors sl_law_bent sl_law_asked sl_law : Array (Option Value)}
    {oc_is_whole kV_is_whole dc_is_whole pm_is_whole cd_is_whole ct_is_whole oc_steps_by_state kV_steps_by_state dc_steps_by_state pm_steps_by_state cd_steps_by_state ct_steps_by_state oc_states_behind kV_states_behind dc_states_behind pm_states_behind cd_states_behind ct_states_behind oc_states_along kV_states_along dc_states_along pm_states_along cd_states_along ct_states_along oc_rests_of kV_rests_of dc_rests_of pm_rests_of cd_rests_of ct_rests_of oc_MoveWeb_init kV_MoveWeb_init dc_MoveWeb_init pm_MoveWeb_init cd_MoveWeb_init ct_MoveWeb_init oc_MoveWeb_put_moves kV_MoveWeb_put_moves dc_MoveWeb_put_moves pm_MoveWeb_put_moves cd_MoveWeb_put_moves ct_MoveWeb_put_moves oc_MoveWeb_put_edits kV_MoveWeb_put_edits dc_MoveWeb_put_edits pm_MoveWeb_put_edits cd_MoveWeb_put_edits ct_MoveWeb_put_edits oc_MoveWeb_is_end kV_MoveWeb_is_end dc_MoveWeb_is_end pm_MoveWeb_is_end cd_MoveWeb_is_end ct_MoveWeb_is_end oc_MoveWeb_ends kV_MoveWeb_ends dc_MoveWeb_ends pm_MoveWeb_ends cd_MoveWeb_ends ct_MoveWeb_ends oc_MoveWeb_closed kV_MoveWeb_closed dc_MoveWeb_closed pm_MoveWeb_closed cd_MoveWeb_closed ct_MoveWeb_closed oc_MoveWeb_begun kV_MoveWeb_begun dc_MoveWeb_begun pm_MoveWeb_begun cd_MoveWeb_begun ct_MoveWeb_begun oc_MoveWeb_behind kV_MoveWeb_behind dc_MoveWeb_behind pm_MoveWeb_behind cd_MoveWeb_behind ct_MoveWeb_behind oc_MoveWeb_least_end kV_MoveWeb_least_end dc_MoveWeb_least_end pm_MoveWeb_least_end cd_MoveWeb_least_end ct_MoveWeb_least_end oc_least_of kV_least_of dc_least_of pm_least_of cd_least_of ct_least_of oc_floor_paper kV_floor_paper dc_floor_paper pm_floor_paper cd_floor_paper ct_floor_paper oc_are_floor_rows kV_are_floor_rows dc_are_floor_rows pm_are_floor_rows cd_are_floor_rows ct_are_floor_rows oc_keeps_moves kV_keeps_moves dc_keeps_moves pm_keeps_moves cd_keeps_moves ct_keeps_moves oc_is_floor kV_is_floor dc_is_floor pm_is_floor cd_is_floor ct_is_floor oc_law_pool kV_law_pool dc_law_pool pm_law_pool cd_law_pool ct_law_pool oc_law_draw kV_law_draw dc_law_draw pm_law_draw cd_law_draw ct_law_draw oc_law_letters kV_law_letters dc_law_letters pm_law_letters cd_law_letters ct_law_letters oc_law_text kV_law_text dc_law_text pm_law_text cd_law_text ct_law_text oc_law_book kV_law_book dc_law_book pm_law_book cd_law_book ct_law_book oc_law_machine kV_law_machine dc_law_machine pm_law_machine cd_law_machine ct_law_machine oc_law_house kV_law_house dc_law_house pm_law_house cd_law_house ct_law_house oc_law_full kV_law_full dc_law_full pm_law_full cd_law_full ct_law_full oc_law_pair kV_law_pair dc_law_pair pm_law_pair cd_law_pair ct_law_pair oc_law_standings kV_law_standings dc_law_standings pm_law_standings cd_law_standings ct_law_standings oc_law_moves kV_law_moves dc_law_moves pm_law_moves cd_law_moves ct_law_moves oc_law_least kV_law_least dc_law_least pm_law_least cd_law_least ct_law_least oc_law_integer kV_law_integer dc_law_integer pm_law_integer cd_law_integer ct_law_integer oc_law_is_floor kV_law_is_floor dc_law_is_floor pm_law_is_floor cd_law_is_floor ct_law_is_floor oc_law_own_floors kV_law_own_floors dc_law_own_floors pm_law_own_floors cd_law_own_floors ct_law_own_floors oc_law_bent kV_law_bent dc_law_bent pm_law_bent cd_law_bent ct_law_bent oc_law_asked kV_law_asked dc_law_asked pm_law_asked cd_law_asked ct_law_asked oc_law kV_law dc_law pm_law cd_law ct_law : Value}
    (z_len : PySem.W.nsIn K mainGlobals "len" = some none)
    (z_range : PySem.W.nsIn K mainGlobals "range" = some none)
    (z_enumerate : PySem.W.nsIn K mainGlobals "enumerate" = some none)
    (z_list : PySem.W.nsIn K mainGlobals "list" = some none)
    (z_tuple : PySem.W.nsIn K mainGlobals "tuple" = some none)
    (z_sorted : PySem.W.nsIn K mainGlobals "sorted" = some none)
    (z_min : PySem.W.nsIn K mainGlobals "min" = some none)
    (z_max : PySem.W.nsIn K mainGlobals "max" = some none)
    (z_set : PySem.W.nsIn K mainGlobals "set" = some none)
    (z_int : PySem.W.nsIn K mainGlobals "int" = some none)
    (z_str : PySem.W.nsIn K mainGlobals "str" = some none)
    (z_isinstance : PySem.W.nsIn K mainGlobals "isinstance" = some none)
    (z_bool : PySem.W.nsIn K mainGlobals "bool" = some none)
    (g_MoveWeb : PySem.W.nsIn K mainGlobals "MoveWeb" = some (some (.ref c_MoveWeb)))
    (pg_MoveWeb : PySem.W.plainGet K c_MoveWeb Str.empty = true)
    (hd_MoveWeb : PySem.W.hasDictIn K c_MoveWeb = true)
    (po_MoveWeb : PySem.W.plainOver K c_MoveWeb = true)
    (sa_MoveWeb : PySem.W.findIn K (.ref c_MoveWeb) "__setattr__" = some (some (.builtin "object.__setattr__")))
    (mks_MoveWeb : PySem.W.makesIn K c_MoveWeb = true)
    (kc_MoveWeb : PySem.W.keepIn K (.ref c_MoveWeb) = true)
    (na_MoveWeb_book : PySem.W.findIn K (.ref c_MoveWeb) "book" = some none)
    (na_MoveWeb_machine : PySem.W.findIn K (.ref c_MoveWeb) "machine" = some none)
    (na_MoveWeb_standings : PySem.W.findIn K (.ref c_MoveWeb) "standings" = some none)
    (na_MoveWeb_homes : PySem.W.findIn K (.ref c_MoveWeb) "homes" = some none)
    (na_MoveWeb_silent : PySem.W.findIn K (.ref c_MoveWeb) "silent" = some none)
    (na_MoveWeb_reading : PySem.W.findIn K (.ref c_MoveWeb) "reading" = some none)
    (a_is_whole : PySem.W.nsIn K mainGlobals "is_whole" = some (some (.ref f_is_whole)))
    (l_is_whole : K.lookup f_is_whole = some ⟨oc_is_whole, od_is_whole, .func (PySem.W.fnOf "is_whole" "is_whole" (defArgs s_is_whole) (defBody s_is_whole) (defScope s_is_whole) .none kV_is_whole dc_is_whole pm_is_whole an_is_whole cd_is_whole ct_is_whole), sl_is_whole⟩)
    (k_is_whole : PySem.W.codeIn K cd_is_whole "is_whole" = true)
    (p_is_whole : PySem.W.keepIn K (.ref f_is_whole) = true)
    (a_steps_by_state : PySem.W.nsIn K mainGlobals "steps_by_state" = some (some (.ref f_steps_by_state)))
    (l_steps_by_state : K.lookup f_steps_by_state = some ⟨oc_steps_by_state, od_steps_by_state, .func (PySem.W.fnOf "steps_by_state" "steps_by_state" (defArgs s_steps_by_state) (defBody s_steps_by_state) (defScope s_steps_by_state) .none kV_steps_by_state dc_steps_by_state pm_steps_by_state an_steps_by_state cd_steps_by_state ct_steps_by_state), sl_steps_by_state⟩)
    (k_steps_by_state : PySem.W.codeIn K cd_steps_by_state "steps_by_state" = true)
    (p_steps_by_state : PySem.W.keepIn K (.ref f_steps_by_state) = true)
    (a_states_behind : PySem.W.nsIn K mainGlobals "states_behind" = some (some (.ref f_states_behind)))
    (l_states_behind : K.lookup f_states_behind = some ⟨oc_states_behind, od_states_behind, .func (PySem.W.fnOf "states_behind" "states_behind" (defArgs s_states_behind) (defBody s_states_behind) (defScope s_states_behind) .none kV_states_behind dc_states_behind pm_states_behind an_states_behind cd_states_behind ct_states_behind), sl_states_behind⟩)
    (k_states_behind : PySem.W.codeIn K cd_states_behind "states_behind" = true)
    (p_states_behind : PySem.W.keepIn K (.ref f_states_behind) = true)
    (a_states_along : PySem.W.nsIn K mainGlobals "states_along" = some (some (.ref f_states_along)))
    (l_states_along : K.lookup f_states_along = some ⟨oc_states_along, od_states_along, .func (PySem.W.fnOf "states_along" "states_along" (defArgs s_states_along) (defBody s_states_along) (defScope s_states_along) .none kV_states_along dc_states_along pm_states_along an_states_along cd_states_along ct_states_along), sl_states_along⟩)
    (k_states_along : PySem.W.codeIn K cd_states_along "states_along" = true)
    (p_states_along : PySem.W.keepIn K (.ref f_states_along) = true)
    (a_rests_of : PySem.W.nsIn K mainGlobals "rests_of" = some (some (.ref f_rests_of)))
    (l_rests_of : K.lookup f_rests_of = some ⟨oc_rests_of, od_rests_of, .func (PySem.W.fnOf "rests_of" "rests_of" (defArgs s_rests_of) (defBody s_rests_of) (defScope s_rests_of) .none kV_rests_of dc_rests_of pm_rests_of an_rests_of cd_rests_of ct_rests_of), sl_rests_of⟩)
    (k_rests_of : PySem.W.codeIn K cd_rests_of "rests_of" = true)
    (p_rests_of : PySem.W.keepIn K (.ref f_rests_of) = true)
    (a_MoveWeb_init : PySem.W.findIn K (.ref c_MoveWeb) "__init__" = some (some (.ref f_MoveWeb_init)))
    (i_MoveWeb_init : PySem.W.isFn K (.ref f_MoveWeb_init) = true)
    (l_MoveWeb_init : K.lookup f_MoveWeb_init = some ⟨oc_MoveWeb_init, od_MoveWeb_init, .func (PySem.W.fnOf "__init__" "MoveWeb.__init__" (defArgs s_MoveWeb_init) (defBody s_MoveWeb_init) (defScope s_MoveWeb_init) .none kV_MoveWeb_init dc_MoveWeb_init pm_MoveWeb_init an_MoveWeb_init cd_MoveWeb_init ct_MoveWeb_init), sl_MoveWeb_init⟩)
    (k_MoveWeb_init : PySem.W.codeIn K cd_MoveWeb_init "MoveWeb.__init__" = true)
    (p_MoveWeb_init : PySem.W.keepIn K (.ref f_MoveWeb_init) = true)
    (a_MoveWeb_put_moves : PySem.W.findIn K (.ref c_MoveWeb) "put_moves" = some (some (.ref f_MoveWeb_put_moves)))
    (i_MoveWeb_put_moves : PySem.W.isFn K (.ref f_MoveWeb_put_moves) = true)
    (l_MoveWeb_put_moves : K.lookup f_MoveWeb_put_moves = some ⟨oc_MoveWeb_put_moves, od_MoveWeb_put_moves, .func (PySem.W.fnOf "put_moves" "MoveWeb.put_moves" (defArgs s_MoveWeb_put_moves) (defBody s_MoveWeb_put_moves) (defScope s_MoveWeb_put_moves) .none kV_MoveWeb_put_moves dc_MoveWeb_put_moves pm_MoveWeb_put_moves an_MoveWeb_put_moves cd_MoveWeb_put_moves ct_MoveWeb_put_moves), sl_MoveWeb_put_moves⟩)
    (k_MoveWeb_put_moves : PySem.W.codeIn K cd_MoveWeb_put_moves "MoveWeb.put_moves" = true)
    (p_MoveWeb_put_moves : PySem.W.keepIn K (.ref f_MoveWeb_put_moves) = true)
    (a_MoveWeb_put_edits : PySem.W.findIn K (.ref c_MoveWeb) "put_edits" = some (some (.ref f_MoveWeb_put_edits)))
    (i_MoveWeb_put_edits : PySem.W.isFn K (.ref f_MoveWeb_put_edits) = true)
    (l_MoveWeb_put_edits : K.lookup f_MoveWeb_put_edits = some ⟨oc_MoveWeb_put_edits, od_MoveWeb_put_edits, .func (PySem.W.fnOf "put_edits" "MoveWeb.put_edits" (defArgs s_MoveWeb_put_edits) (defBody s_MoveWeb_put_edits) (defScope s_MoveWeb_put_edits) .none kV_MoveWeb_put_edits dc_MoveWeb_put_edits pm_MoveWeb_put_edits an_MoveWeb_put_edits cd_MoveWeb_put_edits ct_MoveWeb_put_edits), sl_MoveWeb_put_edits⟩)
    (k_MoveWeb_put_edits : PySem.W.codeIn K cd_MoveWeb_put_edits "MoveWeb.put_edits" = true)
    (p_MoveWeb_put_edits : PySem.W.keepIn K (.ref f_MoveWeb_put_edits) = true)
    (a_MoveWeb_is_end : PySem.W.findIn K (.ref c_MoveWeb) "is_end" = some (some (.ref f_MoveWeb_is_end)))
    (i_MoveWeb_is_end : PySem.W.isFn K (.ref f_MoveWeb_is_end) = true)
    (l_MoveWeb_is_end : K.lookup f_MoveWeb_is_end = some ⟨oc_MoveWeb_is_end, od_MoveWeb_is_end, .func (PySem.W.fnOf "is_end" "MoveWeb.is_end" (defArgs s_MoveWeb_is_end) (defBody s_MoveWeb_is_end) (defScope s_MoveWeb_is_end) .none kV_MoveWeb_is_end dc_MoveWeb_is_end pm_MoveWeb_is_end an_MoveWeb_is_end cd_MoveWeb_is_end ct_MoveWeb_is_end), sl_MoveWeb_is_end⟩)
    (k_MoveWeb_is_end : PySem.W.codeIn K cd_MoveWeb_is_end "MoveWeb.is_end" = true)
    (p_MoveWeb_is_end : PySem.W.keepIn K (.ref f_MoveWeb_is_end) = true)
    (a_MoveWeb_ends : PySem.W.findIn K (.ref c_MoveWeb) "ends" = some (some (.ref f_MoveWeb_ends)))
    (i_MoveWeb_ends : PySem.W.isFn K (.ref f_MoveWeb_ends) = true)
    (l_MoveWeb_ends : K.lookup f_MoveWeb_ends = some ⟨oc_MoveWeb_ends, od_MoveWeb_ends, .func (PySem.W.fnOf "ends" "MoveWeb.ends" (defArgs s_MoveWeb_ends) (defBody s_MoveWeb_ends) (defScope s_MoveWeb_ends) .none kV_MoveWeb_ends dc_MoveWeb_ends pm_MoveWeb_ends an_MoveWeb_ends cd_MoveWeb_ends ct_MoveWeb_ends), sl_MoveWeb_ends⟩)
    (k_MoveWeb_ends : PySem.W.codeIn K cd_MoveWeb_ends "MoveWeb.ends" = true)
    (p_MoveWeb_ends : PySem.W.keepIn K (.ref f_MoveWeb_ends) = true)
    (a_MoveWeb_closed : PySem.W.findIn K (.ref c_MoveWeb) "closed" = some (some (.ref f_MoveWeb_closed)))
    (i_MoveWeb_closed : PySem.W.isFn K (.ref f_MoveWeb_closed) = true)
    (l_MoveWeb_closed : K.lookup f_MoveWeb_closed = some ⟨oc_MoveWeb_closed, od_MoveWeb_closed, .func (PySem.W.fnOf "closed" "MoveWeb.closed" (defArgs s_MoveWeb_closed) (defBody s_MoveWeb_closed) (defScope s_MoveWeb_closed) .none kV_MoveWeb_closed dc_MoveWeb_closed pm_MoveWeb_closed an_MoveWeb_closed cd_MoveWeb_closed ct_MoveWeb_closed), sl_MoveWeb_closed⟩)
    (k_MoveWeb_closed : PySem.W.codeIn K cd_MoveWeb_closed "MoveWeb.closed" = true)
    (p_MoveWeb_closed : PySem.W.keepIn K (.ref f_MoveWeb_closed) = true)
    (a_MoveWeb_begun : PySem.W.findIn K (.ref c_MoveWeb) "begun" = some (some (.ref f_MoveWeb_begun)))
    (i_MoveWeb_begun : PySem.W.isFn K (.ref f_MoveWeb_begun) = true)
    (l_MoveWeb_begun : K.lookup f_MoveWeb_begun = some ⟨oc_MoveWeb_begun, od_MoveWeb_begun, .func (PySem.W.fnOf "begun" "MoveWeb.begun" (defArgs s_MoveWeb_begun) (defBody s_MoveWeb_begun) (defScope s_MoveWeb_begun) .none kV_MoveWeb_begun dc_MoveWeb_begun pm_MoveWeb_begun an_MoveWeb_begun cd_MoveWeb_begun ct_MoveWeb_begun), sl_MoveWeb_begun⟩)
    (k_MoveWeb_begun : PySem.W.codeIn K cd_MoveWeb_begun "MoveWeb.begun" = true)
    (p_MoveWeb_begun : PySem.W.keepIn K (.ref f_MoveWeb_begun) = true)
    (a_MoveWeb_behind : PySem.W.findIn K (.ref c_MoveWeb) "behind" = some (some (.ref f_MoveWeb_behind)))
    (i_MoveWeb_behind : PySem.W.isFn K (.ref f_MoveWeb_behind) = true)
    (l_MoveWeb_behind : K.lookup f_MoveWeb_behind = some ⟨oc_MoveWeb_behind, od_MoveWeb_behind, .func (PySem.W.fnOf "behind" "MoveWeb.behind" (defArgs s_MoveWeb_behind) (defBody s_MoveWeb_behind) (defScope s_MoveWeb_behind) .none kV_MoveWeb_behind dc_MoveWeb_behind pm_MoveWeb_behind an_MoveWeb_behind cd_MoveWeb_behind ct_MoveWeb_behind), sl_MoveWeb_behind⟩)
    (k_MoveWeb_behind : PySem.W.codeIn K cd_MoveWeb_behind "MoveWeb.behind" = true)
    (p_MoveWeb_behind : PySem.W.keepIn K (.ref f_MoveWeb_behind) = true)
    (a_MoveWeb_least_end : PySem.W.findIn K (.ref c_MoveWeb) "least_end" = some (some (.ref f_MoveWeb_least_end)))
    (i_MoveWeb_least_end : PySem.W.isFn K (.ref f_MoveWeb_least_end) = true)
    (l_MoveWeb_least_end : K.lookup f_MoveWeb_least_end = some ⟨oc_MoveWeb_least_end, od_MoveWeb_least_end, .func (PySem.W.fnOf "least_end" "MoveWeb.least_end" (defArgs s_MoveWeb_least_end) (defBody s_MoveWeb_least_end) (defScope s_MoveWeb_least_end) .none kV_MoveWeb_least_end dc_MoveWeb_least_end pm_MoveWeb_least_end an_MoveWeb_least_end cd_MoveWeb_least_end ct_MoveWeb_least_end), sl_MoveWeb_least_end⟩)
    (k_MoveWeb_least_end : PySem.W.codeIn K cd_MoveWeb_least_end "MoveWeb.least_end" = true)
    (p_MoveWeb_least_end : PySem.W.keepIn K (.ref f_MoveWeb_least_end) = true)
    (a_least_of : PySem.W.nsIn K mainGlobals "least_of" = some (some (.ref f_least_of)))
    (l_least_of : K.lookup f_least_of = some ⟨oc_least_of, od_least_of, .func (PySem.W.fnOf "least_of" "least_of" (defArgs s_least_of) (defBody s_least_of) (defScope s_least_of) .none kV_least_of dc_least_of pm_least_of an_least_of cd_least_of ct_least_of), sl_least_of⟩)
    (k_least_of : PySem.W.codeIn K cd_least_of "least_of" = true)
    (p_least_of : PySem.W.keepIn K (.ref f_least_of) = true)
    (a_floor_paper : PySem.W.nsIn K mainGlobals "floor_paper" = some (some (.ref f_floor_paper)))
    (l_floor_paper : K.lookup f_floor_paper = some ⟨oc_floor_paper, od_floor_paper, .func (PySem.W.fnOf "floor_paper" "floor_paper" (defArgs s_floor_paper) (defBody s_floor_paper) (defScope s_floor_paper) .none kV_floor_paper dc_floor_paper pm_floor_paper an_floor_paper cd_floor_paper ct_floor_paper), sl_floor_paper⟩)
    (k_floor_paper : PySem.W.codeIn K cd_floor_paper "floor_paper" = true)
    (p_floor_paper : PySem.W.keepIn K (.ref f_floor_paper) = true)
    (a_are_floor_rows : PySem.W.nsIn K mainGlobals "are_floor_rows" = some (some (.ref f_are_floor_rows)))
    (l_are_floor_rows : K.lookup f_are_floor_rows = some ⟨oc_are_floor_rows, od_are_floor_rows, .func (PySem.W.fnOf "are_floor_rows" "are_floor_rows" (defArgs s_are_floor_rows) (defBody s_are_floor_rows) (defScope s_are_floor_rows) .none kV_are_floor_rows dc_are_floor_rows pm_are_floor_rows an_are_floor_rows cd_are_floor_rows ct_are_floor_rows), sl_are_floor_rows⟩)
    (k_are_floor_rows : PySem.W.codeIn K cd_are_floor_rows "are_floor_rows" = true)
    (p_are_floor_rows : PySem.W.keepIn K (.ref f_are_floor_rows) = true)
    (a_keeps_moves : PySem.W.nsIn K mainGlobals "keeps_moves" = some (some (.ref f_keeps_moves)))
    (l_keeps_moves : K.lookup f_keeps_moves = some ⟨oc_keeps_moves, od_keeps_moves, .func (PySem.W.fnOf "keeps_moves" "keeps_moves" (defArgs s_keeps_moves) (defBody s_keeps_moves) (defScope s_keeps_moves) .none kV_keeps_moves dc_keeps_moves pm_keeps_moves an_keeps_moves cd_keeps_moves ct_keeps_moves), sl_keeps_moves⟩)
    (k_keeps_moves : PySem.W.codeIn K cd_keeps_moves "keeps_moves" = true)
    (p_keeps_moves : PySem.W.keepIn K (.ref f_keeps_moves) = true)
    (a_is_floor : PySem.W.nsIn K mainGlobals "is_floor" = some (some (.ref f_is_floor)))
    (l_is_floor : K.lookup f_is_floor = some ⟨oc_is_floor, od_is_floor, .func (PySem.W.fnOf "is_floor" "is_floor" (defArgs s_is_floor) (defBody s_is_floor) (defScope s_is_floor) .none kV_is_floor dc_is_floor pm_is_floor an_is_floor cd_is_floor ct_is_floor), sl_is_floor⟩)
    (k_is_floor : PySem.W.codeIn K cd_is_floor "is_floor" = true)
    (p_is_floor : PySem.W.keepIn K (.ref f_is_floor) = true)
    (a_law_pool : PySem.W.nsIn K mainGlobals "_law_pool" = some (some (.ref f_law_pool)))
    (l_law_pool : K.lookup f_law_pool = some ⟨oc_law_pool, od_law_pool, .func (PySem.W.fnOf "_law_pool" "_law_pool" (defArgs s_law_pool) (defBody s_law_pool) (defScope s_law_pool) .none kV_law_pool dc_law_pool pm_law_pool an_law_pool cd_law_pool ct_law_pool), sl_law_pool⟩)
    (k_law_pool : PySem.W.codeIn K cd_law_pool "_law_pool" = true)
    (p_law_pool : PySem.W.keepIn K (.ref f_law_pool) = true)
    (a_law_draw : PySem.W.nsIn K mainGlobals "_law_draw" = some (some (.ref f_law_draw)))
    (l_law_draw : K.lookup f_law_draw = some ⟨oc_law_draw, od_law_draw, .func (PySem.W.fnOf "_law_draw" "_law_draw" (defArgs s_law_draw) (defBody s_law_draw) (defScope s_law_draw) .none kV_law_draw dc_law_draw pm_law_draw an_law_draw cd_law_draw ct_law_draw), sl_law_draw⟩)
    (k_law_draw : PySem.W.codeIn K cd_law_draw "_law_draw" = true)
    (p_law_draw : PySem.W.keepIn K (.ref f_law_draw) = true)
    (a_law_letters : PySem.W.nsIn K mainGlobals "_law_letters" = some (some (.ref f_law_letters)))
    (l_law_letters : K.lookup f_law_letters = some ⟨oc_law_letters, od_law_letters, .func (PySem.W.fnOf "_law_letters" "_law_letters" (defArgs s_law_letters) (defBody s_law_letters) (defScope s_law_letters) .none kV_law_letters dc_law_letters pm_law_letters an_law_letters cd_law_letters ct_law_letters), sl_law_letters⟩)
    (k_law_letters : PySem.W.codeIn K cd_law_letters "_law_letters" = true)
    (p_law_letters : PySem.W.keepIn K (.ref f_law_letters) = true)
    (a_law_text : PySem.W.nsIn K mainGlobals "_law_text" = some (some (.ref f_law_text)))
    (l_law_text : K.lookup f_law_text = some ⟨oc_law_text, od_law_text, .func (PySem.W.fnOf "_law_text" "_law_text" (defArgs s_law_text) (defBody s_law_text) (defScope s_law_text) .none kV_law_text dc_law_text pm_law_text an_law_text cd_law_text ct_law_text), sl_law_text⟩)
    (k_law_text : PySem.W.codeIn K cd_law_text "_law_text" = true)
    (p_law_text : PySem.W.keepIn K (.ref f_law_text) = true)
    (a_law_book : PySem.W.nsIn K mainGlobals "_law_book" = some (some (.ref f_law_book)))
    (l_law_book : K.lookup f_law_book = some ⟨oc_law_book, od_law_book, .func (PySem.W.fnOf "_law_book" "_law_book" (defArgs s_law_book) (defBody s_law_book) (defScope s_law_book) .none kV_law_book dc_law_book pm_law_book an_law_book cd_law_book ct_law_book), sl_law_book⟩)
    (k_law_book : PySem.W.codeIn K cd_law_book "_law_book" = true)
    (p_law_book : PySem.W.keepIn K (.ref f_law_book) = true)
    (a_law_machine : PySem.W.nsIn K mainGlobals "_law_machine" = some (some (.ref f_law_machine)))
    (l_law_machine : K.lookup f_law_machine = some ⟨oc_law_machine, od_law_machine, .func (PySem.W.fnOf "_law_machine" "_law_machine" (defArgs s_law_machine) (defBody s_law_machine) (defScope s_law_machine) .none kV_law_machine dc_law_machine pm_law_machine an_law_machine cd_law_machine ct_law_machine), sl_law_machine⟩)
    (k_law_machine : PySem.W.codeIn K cd_law_machine "_law_machine" = true)
    (p_law_machine : PySem.W.keepIn K (.ref f_law_machine) = true)
    (a_law_house : PySem.W.nsIn K mainGlobals "_law_house" = some (some (.ref f_law_house)))
    (l_law_house : K.lookup f_law_house = some ⟨oc_law_house, od_law_house, .func (PySem.W.fnOf "_law_house" "_law_house" (defArgs s_law_house) (defBody s_law_house) (defScope s_law_house) .none kV_law_house dc_law_house pm_law_house an_law_house cd_law_house ct_law_house), sl_law_house⟩)
    (k_law_house : PySem.W.codeIn K cd_law_house "_law_house" = true)
    (p_law_house : PySem.W.keepIn K (.ref f_law_house) = true)
    (a_law_full : PySem.W.nsIn K mainGlobals "_law_full" = some (some (.ref f_law_full)))
    (l_law_full : K.lookup f_law_full = some ⟨oc_law_full, od_law_full, .func (PySem.W.fnOf "_law_full" "_law_full" (defArgs s_law_full) (defBody s_law_full) (defScope s_law_full) .none kV_law_full dc_law_full pm_law_full an_law_full cd_law_full ct_law_full), sl_law_full⟩)
    (k_law_full : PySem.W.codeIn K cd_law_full "_law_full" = true)
    (p_law_full : PySem.W.keepIn K (.ref f_law_full) = true)
    (a_law_pair : PySem.W.nsIn K mainGlobals "_law_pair" = some (some (.ref f_law_pair)))
    (l_law_pair : K.lookup f_law_pair = some ⟨oc_law_pair, od_law_pair, .func (PySem.W.fnOf "_law_pair" "_law_pair" (defArgs s_law_pair) (defBody s_law_pair) (defScope s_law_pair) .none kV_law_pair dc_law_pair pm_law_pair an_law_pair cd_law_pair ct_law_pair), sl_law_pair⟩)
    (k_law_pair : PySem.W.codeIn K cd_law_pair "_law_pair" = true)
    (p_law_pair : PySem.W.keepIn K (.ref f_law_pair) = true)
    (a_law_standings : PySem.W.nsIn K mainGlobals "_law_standings" = some (some (.ref f_law_standings)))
    (l_law_standings : K.lookup f_law_standings = some ⟨oc_law_standings, od_law_standings, .func (PySem.W.fnOf "_law_standings" "_law_standings" (defArgs s_law_standings) (defBody s_law_standings) (defScope s_law_standings) .none kV_law_standings dc_law_standings pm_law_standings an_law_standings cd_law_standings ct_law_standings), sl_law_standings⟩)
    (k_law_standings : PySem.W.codeIn K cd_law_standings "_law_standings" = true)
    (p_law_standings : PySem.W.keepIn K (.ref f_law_standings) = true)
    (a_law_moves : PySem.W.nsIn K mainGlobals "_law_moves" = some (some (.ref f_law_moves)))
    (l_law_moves : K.lookup f_law_moves = some ⟨oc_law_moves, od_law_moves, .func (PySem.W.fnOf "_law_moves" "_law_moves" (defArgs s_law_moves) (defBody s_law_moves) (defScope s_law_moves) .none kV_law_moves dc_law_moves pm_law_moves an_law_moves cd_law_moves ct_law_moves), sl_law_moves⟩)
    (k_law_moves : PySem.W.codeIn K cd_law_moves "_law_moves" = true)
    (p_law_moves : PySem.W.keepIn K (.ref f_law_moves) = true)
    (a_law_least : PySem.W.nsIn K mainGlobals "_law_least" = some (some (.ref f_law_least)))
    (l_law_least : K.lookup f_law_least = some ⟨oc_law_least, od_law_least, .func (PySem.W.fnOf "_law_least" "_law_least" (defArgs s_law_least) (defBody s_law_least) (defScope s_law_least) .none kV_law_least dc_law_least pm_law_least an_law_least cd_law_least ct_law_least), sl_law_least⟩)
    (k_law_least : PySem.W.codeIn K cd_law_least "_law_least" = true)
    (p_law_least : PySem.W.keepIn K (.ref f_law_least) = true)
    (a_law_integer : PySem.W.nsIn K mainGlobals "_law_integer" = some (some (.ref f_law_integer)))
    (l_law_integer : K.lookup f_law_integer = some ⟨oc_law_integer, od_law_integer, .func (PySem.W.fnOf "_law_integer" "_law_integer" (defArgs s_law_integer) (defBody s_law_integer) (defScope s_law_integer) .none kV_law_integer dc_law_integer pm_law_integer an_law_integer cd_law_integer ct_law_integer), sl_law_integer⟩)
    (k_law_integer : PySem.W.codeIn K cd_law_integer "_law_integer" = true)
    (p_law_integer : PySem.W.keepIn K (.ref f_law_integer) = true)
    (a_law_is_floor : PySem.W.nsIn K mainGlobals "_law_is_floor" = some (some (.ref f_law_is_floor)))
    (l_law_is_floor : K.lookup f_law_is_floor = some ⟨oc_law_is_floor, od_law_is_floor, .func (PySem.W.fnOf "_law_is_floor" "_law_is_floor" (defArgs s_law_is_floor) (defBody s_law_is_floor) (defScope s_law_is_floor) .none kV_law_is_floor dc_law_is_floor pm_law_is_floor an_law_is_floor cd_law_is_floor ct_law_is_floor), sl_law_is_floor⟩)
    (k_law_is_floor : PySem.W.codeIn K cd_law_is_floor "_law_is_floor" = true)
    (p_law_is_floor : PySem.W.keepIn K (.ref f_law_is_floor) = true)
    (a_law_own_floors : PySem.W.nsIn K mainGlobals "_law_own_floors" = some (some (.ref f_law_own_floors)))
    (l_law_own_floors : K.lookup f_law_own_floors = some ⟨oc_law_own_floors, od_law_own_floors, .func (PySem.W.fnOf "_law_own_floors" "_law_own_floors" (defArgs s_law_own_floors) (defBody s_law_own_floors) (defScope s_law_own_floors) .none kV_law_own_floors dc_law_own_floors pm_law_own_floors an_law_own_floors cd_law_own_floors ct_law_own_floors), sl_law_own_floors⟩)
    (k_law_own_floors : PySem.W.codeIn K cd_law_own_floors "_law_own_floors" = true)
    (p_law_own_floors : PySem.W.keepIn K (.ref f_law_own_floors) = true)
    (a_law_bent : PySem.W.nsIn K mainGlobals "_law_bent" = some (some (.ref f_law_bent)))
    (l_law_bent : K.lookup f_law_bent = some ⟨oc_law_bent, od_law_bent, .func (PySem.W.fnOf "_law_bent" "_law_bent" (defArgs s_law_bent) (defBody s_law_bent) (defScope s_law_bent) .none kV_law_bent dc_law_bent pm_law_bent an_law_bent cd_law_bent ct_law_bent), sl_law_bent⟩)
    (k_law_bent : PySem.W.codeIn K cd_law_bent "_law_bent" = true)
    (p_law_bent : PySem.W.keepIn K (.ref f_law_bent) = true)
    (a_law_asked : PySem.W.nsIn K mainGlobals "_law_asked" = some (some (.ref f_law_asked)))
    (l_law_asked : K.lookup f_law_asked = some ⟨oc_law_asked, od_law_asked, .func (PySem.W.fnOf "_law_asked" "_law_asked" (defArgs s_law_asked) (defBody s_law_asked) (defScope s_law_asked) .none kV_law_asked dc_law_asked pm_law_asked an_law_asked cd_law_asked ct_law_asked), sl_law_asked⟩)
    (k_law_asked : PySem.W.codeIn K cd_law_asked "_law_asked" = true)
    (p_law_asked : PySem.W.keepIn K (.ref f_law_asked) = true)
    (a_law : PySem.W.nsIn K mainGlobals "law" = some (some (.ref f_law)))
    (l_law : K.lookup f_law = some ⟨oc_law, od_law, .func (PySem.W.fnOf "law" "law" (defArgs s_law) (defBody s_law) (defScope s_law) .none kV_law dc_law pm_law an_law cd_law ct_law), sl_law⟩)
    (k_law : PySem.W.codeIn K cd_law "law" = true)
    (p_law : PySem.W.keepIn K (.ref f_law) = true)
    : ∃ fd : FuncData, (∀ (s : Shared) (v : Value), BindsTo s fd ⟨[v], []⟩ [("script", v)]) ∧ ∀ base : Heap, K.In base → base.Ns mainGlobals mg → FnOk l.prog w K mg base CX0 10 fa fd ["script"] (spLaw K) := by
  have e := hfa.symm.trans (PySem.W.mg_of X G a_law)
  cases e
  have F_is_whole := fun_mk (st := s_is_whole) l_is_whole k_is_whole p_is_whole
  have b_is_whole := F_is_whole.binds (ps := P_is_whole) fun _ _ _ _ _ _ us hl => match us, hl with | [_], _ => rfl
  have F_steps_by_state := fun_mk (st := s_steps_by_state) l_steps_by_state k_steps_by_state p_steps_by_state
  have b_steps_by_state := F_steps_by_state.binds (ps := P_steps_by_state) fun _ _ _ _ _ _ us hl => match us, hl with | [_], _ => rfl
  have F_states_behind := fun_mk (st := s_states_behind) l_states_behind k_states_behind p_states_behind
  have b_states_behind := F_states_behind.binds (ps := P_states_behind) fun _ _ _ _ _ _ us hl => match us, hl with | [_, _, _], _ => rfl
  have F_states_along := fun_mk (st := s_states_along) l_states_along k_states_along p_states_along
  have b_states_along := F_states_along.binds (ps := P_states_along) fun _ _ _ _ _ _ us hl => match us, hl with | [_, _, _], _ => rfl
  have F_rests_of := fun_mk (st := s_rests_of) l_rests_of k_rests_of p_rests_of
  have b_rests_of := F_rests_of.binds (ps := P_rests_of) fun _ _ _ _ _ _ us hl => match us, hl with | [_], _ => rfl
  have F_MoveWeb_init := fun_mk (st := s_MoveWeb_init) l_MoveWeb_init k_MoveWeb_init p_MoveWeb_init
  have b_MoveWeb_init := F_MoveWeb_init.binds (ps := P_MoveWeb_init) fun _ _ _ _ _ _ us hl => match us, hl with | [_, _, _], _ => rfl
  have F_MoveWeb_put_moves := fun_mk (st := s_MoveWeb_put_moves) l_MoveWeb_put_moves k_MoveWeb_put_moves p_MoveWeb_put_moves
  have b_MoveWeb_put_moves := F_MoveWeb_put_moves.binds (ps := P_MoveWeb_put_moves) fun _ _ _ _ _ _ us hl => match us, hl with | [_, _], _ => rfl
  have F_MoveWeb_put_edits := fun_mk (st := s_MoveWeb_put_edits) l_MoveWeb_put_edits k_MoveWeb_put_edits p_MoveWeb_put_edits
  have b_MoveWeb_put_edits := F_MoveWeb_put_edits.binds (ps := P_MoveWeb_put_edits) fun _ _ _ _ _ _ us hl => match us, hl with | [_, _, _, _], _ => rfl
  have F_MoveWeb_is_end := fun_mk (st := s_MoveWeb_is_end) l_MoveWeb_is_end k_MoveWeb_is_end p_MoveWeb_is_end
  have b_MoveWeb_is_end := F_MoveWeb_is_end.binds (ps := P_MoveWeb_is_end) fun _ _ _ _ _ _ us hl => match us, hl with | [_, _], _ => rfl
  have F_MoveWeb_ends := fun_mk (st := s_MoveWeb_ends) l_MoveWeb_ends k_MoveWeb_ends p_MoveWeb_ends
  have b_MoveWeb_ends := F_MoveWeb_ends.binds (ps := P_MoveWeb_ends) fun _ _ _ _ _ _ us hl => match us, hl with | [_], _ => rfl
  have F_MoveWeb_closed := fun_mk (st := s_MoveWeb_closed) l_MoveWeb_closed k_MoveWeb_closed p_MoveWeb_closed
  have b_MoveWeb_closed := F_MoveWeb_closed.binds (ps := P_MoveWeb_closed) fun _ _ _ _ _ _ us hl => match us, hl with | [_, _], _ => rfl
  have F_MoveWeb_begun := fun_mk (st := s_MoveWeb_begun) l_MoveWeb_begun k_MoveWeb_begun p_MoveWeb_begun
  have b_MoveWeb_begun := F_MoveWeb_begun.binds (ps := P_MoveWeb_begun) fun _ _ _ _ _ _ us hl => match us, hl with | [_], _ => rfl
  have F_MoveWeb_behind := fun_mk (st := s_MoveWeb_behind) l_MoveWeb_behind k_MoveWeb_behind p_MoveWeb_behind
  have b_MoveWeb_behind := F_MoveWeb_behind.binds (ps := P_MoveWeb_behind) fun _ _ _ _ _ _ us hl => match us, hl with | [_, _, _], _ => rfl
  have F_MoveWeb_least_end := fun_mk (st := s_MoveWeb_least_end) l_MoveWeb_least_end k_MoveWeb_least_end p_MoveWeb_least_end
  have b_MoveWeb_least_end := F_MoveWeb_least_end.binds (ps := P_MoveWeb_least_end) fun _ _ _ _ _ _ us hl => match us, hl with | [_, _], _ => rfl
  have F_least_of := fun_mk (st := s_least_of) l_least_of k_least_of p_least_of
  have b_least_of := F_least_of.binds (ps := P_least_of) fun _ _ _ _ _ _ us hl => match us, hl with | [_], _ => rfl
  have F_floor_paper := fun_mk (st := s_floor_paper) l_floor_paper k_floor_paper p_floor_paper
  have b_floor_paper := F_floor_paper.binds (ps := P_floor_paper) fun _ _ _ _ _ _ us hl => match us, hl with | [_, _, _], _ => rfl
  have F_are_floor_rows := fun_mk (st := s_are_floor_rows) l_are_floor_rows k_are_floor_rows p_are_floor_rows
  have b_are_floor_rows := F_are_floor_rows.binds (ps := P_are_floor_rows) fun _ _ _ _ _ _ us hl => match us, hl with | [_, _, _], _ => rfl
  have F_keeps_moves := fun_mk (st := s_keeps_moves) l_keeps_moves k_keeps_moves p_keeps_moves
  have b_keeps_moves := F_keeps_moves.binds (ps := P_keeps_moves) fun _ _ _ _ _ _ us hl => match us, hl with | [_, _, _], _ => rfl
  have F_is_floor := fun_mk (st := s_is_floor) l_is_floor k_is_floor p_is_floor
  have b_is_floor := F_is_floor.binds (ps := P_is_floor) fun _ _ _ _ _ _ us hl => match us, hl with | [_, _, _, _, _], _ => rfl
  have F_law_pool := fun_mk (st := s_law_pool) l_law_pool k_law_pool p_law_pool
  have b_law_pool := F_law_pool.binds (ps := P_law_pool) fun _ _ _ _ _ _ us hl => match us, hl with | [_], _ => rfl
  have F_law_draw := fun_mk (st := s_law_draw) l_law_draw k_law_draw p_law_draw
  have b_law_draw := F_law_draw.binds (ps := P_law_draw) fun _ _ _ _ _ _ us hl => match us, hl with | [_, _], _ => rfl
  have F_law_letters := fun_mk (st := s_law_letters) l_law_letters k_law_letters p_law_letters
  have b_law_letters := F_law_letters.binds (ps := P_law_letters) fun _ _ _ _ _ _ us hl => match us, hl with | [_, _], _ => rfl
  have F_law_text := fun_mk (st := s_law_text) l_law_text k_law_text p_law_text
  have b_law_text := F_law_text.binds (ps := P_law_text) fun _ _ _ _ _ _ us hl => match us, hl with | [_, _, _], _ => rfl
  have F_law_book := fun_mk (st := s_law_book) l_law_book k_law_book p_law_book
  have b_law_book := F_law_book.binds (ps := P_law_book) fun _ _ _ _ _ _ us hl => match us, hl with | [_, _, _], _ => rfl
  have F_law_machine := fun_mk (st := s_law_machine) l_law_machine k_law_machine p_law_machine
  have b_law_machine := F_law_machine.binds (ps := P_law_machine) fun _ _ _ _ _ _ us hl => match us, hl with | [_, _, _], _ => rfl
  have F_law_house := fun_mk (st := s_law_house) l_law_house k_law_house p_law_house
  have b_law_house := F_law_house.binds (ps := P_law_house) fun _ _ _ _ _ _ us hl => match us, hl with | [_, _, _], _ => rfl
  have F_law_full := fun_mk (st := s_law_full) l_law_full k_law_full p_law_full
  have b_law_full := F_law_full.binds (ps := P_law_full) fun _ _ _ _ _ _ us hl => match us, hl with | [_, _, _], _ => rfl
  have F_law_pair := fun_mk (st := s_law_pair) l_law_pair k_law_pair p_law_pair
  have b_law_pair := F_law_pair.binds (ps := P_law_pair) fun _ _ _ _ _ _ us hl => match us, hl with | [_], _ => rfl
  have F_law_standings := fun_mk (st := s_law_standings) l_law_standings k_law_standings p_law_standings
  have b_law_standings := F_law_standings.binds (ps := P_law_standings) fun _ _ _ _ _ _ us hl => match us, hl with | [_, _], _ => rfl
  have F_law_moves := fun_mk (st := s_law_moves) l_law_moves k_law_moves p_law_moves
  have b_law_moves := F_law_moves.binds (ps := P_law_moves) fun _ _ _ _ _ _ us hl => match us, hl with | [_, _], _ => rfl
  have F_law_least := fun_mk (st := s_law_least) l_law_least k_law_least p_law_least
  have b_law_least := F_law_least.binds (ps := P_law_least) fun _ _ _ _ _ _ us hl => match us, hl with | [_, _, _], _ => rfl
  have F_law_integer := fun_mk (st := s_law_integer) l_law_integer k_law_integer p_law_integer
  have b_law_integer := F_law_integer.binds (ps := P_law_integer) fun _ _ _ _ _ _ us hl => match us, hl with | [_], _ => rfl
  have F_law_is_floor := fun_mk (st := s_law_is_floor) l_law_is_floor k_law_is_floor p_law_is_floor
  have b_law_is_floor := F_law_is_floor.binds (ps := P_law_is_floor) fun _ _ _ _ _ _ us hl => match us, hl with | [_, _, _, _, _], _ => rfl
  have F_law_own_floors := fun_mk (st := s_law_own_floors) l_law_own_floors k_law_own_floors p_law_own_floors
  have b_law_own_floors := F_law_own_floors.binds (ps := P_law_own_floors) fun _ _ _ _ _ _ us hl => match us, hl with | [_, _, _], _ => rfl
  have F_law_bent := fun_mk (st := s_law_bent) l_law_bent k_law_bent p_law_bent
  have b_law_bent := F_law_bent.binds (ps := P_law_bent) fun _ _ _ _ _ _ us hl => match us, hl with | [_, _], _ => rfl
  have F_law_asked := fun_mk (st := s_law_asked) l_law_asked k_law_asked p_law_asked
  have b_law_asked := F_law_asked.binds (ps := P_law_asked) fun _ _ _ _ _ _ us hl => match us, hl with | [_, _, _, _, _], _ => rfl
  have F_law := fun_mk (st := s_law) l_law k_law p_law
  have b_law := F_law.binds (ps := P_law) fun _ _ _ _ _ _ us hl => match us, hl with | [_], _ => rfl
  refine ⟨PySem.W.fnOf "law" "law" (defArgs s_law) (defBody s_law) (defScope s_law) .none kV_law dc_law pm_law an_law cd_law ct_law, fun s v => .of_eq rfl, fun base _ _ => ok_law (P := l.prog) (w := w) (K := K) (g := mg) (base := base) {
    z_len := PySem.W.mg_none_of X G z_len,
    z_range := PySem.W.mg_none_of X G z_range,
    z_enumerate := PySem.W.mg_none_of X G z_enumerate,
    z_list := PySem.W.mg_none_of X G z_list,
    z_tuple := PySem.W.mg_none_of X G z_tuple,
    z_sorted := PySem.W.mg_none_of X G z_sorted,
    z_min := PySem.W.mg_none_of X G z_min,
    z_max := PySem.W.mg_none_of X G z_max,
    z_set := PySem.W.mg_none_of X G z_set,
    z_int := PySem.W.mg_none_of X G z_int,
    z_str := PySem.W.mg_none_of X G z_str,
    z_isinstance := PySem.W.mg_none_of X G z_isinstance,
    z_bool := PySem.W.mg_none_of X G z_bool,
    c_MoveWeb := c_MoveWeb,
    cl_MoveWeb := ⟨pg_MoveWeb, hd_MoveWeb, po_MoveWeb, sa_MoveWeb⟩,
    mg_MoveWeb := PySem.W.mg_of X G g_MoveWeb,
    na_MoveWeb_book := na_MoveWeb_book,
    na_MoveWeb_machine := na_MoveWeb_machine,
    na_MoveWeb_standings := na_MoveWeb_standings,
    na_MoveWeb_homes := na_MoveWeb_homes,
    na_MoveWeb_silent := na_MoveWeb_silent,
    na_MoveWeb_reading := na_MoveWeb_reading,
    d_is_whole := ⟨_, _, F_is_whole, PySem.W.mg_of X G a_is_whole, b_is_whole⟩,
    d_steps_by_state := ⟨_, _, F_steps_by_state, PySem.W.mg_of X G a_steps_by_state, b_steps_by_state⟩,
    d_states_behind := ⟨_, _, F_states_behind, PySem.W.mg_of X G a_states_behind, b_states_behind⟩,
    d_states_along := ⟨_, _, F_states_along, PySem.W.mg_of X G a_states_along, b_states_along⟩,
    d_rests_of := ⟨_, _, F_rests_of, PySem.W.mg_of X G a_rests_of, b_rests_of⟩,
    d_MoveWeb_init := ⟨_, _, F_MoveWeb_init, ⟨a_MoveWeb_init, i_MoveWeb_init, p_MoveWeb_init⟩, b_MoveWeb_init⟩,
    mk_MoveWeb := ⟨mks_MoveWeb, a_MoveWeb_init, i_MoveWeb_init, kc_MoveWeb⟩,
    d_MoveWeb_put_moves := ⟨_, _, F_MoveWeb_put_moves, ⟨a_MoveWeb_put_moves, i_MoveWeb_put_moves, p_MoveWeb_put_moves⟩, b_MoveWeb_put_moves⟩,
    d_MoveWeb_put_edits := ⟨_, _, F_MoveWeb_put_edits, ⟨a_MoveWeb_put_edits, i_MoveWeb_put_edits, p_MoveWeb_put_edits⟩, b_MoveWeb_put_edits⟩,
    d_MoveWeb_is_end := ⟨_, _, F_MoveWeb_is_end, ⟨a_MoveWeb_is_end, i_MoveWeb_is_end, p_MoveWeb_is_end⟩, b_MoveWeb_is_end⟩,
    d_MoveWeb_ends := ⟨_, _, F_MoveWeb_ends, ⟨a_MoveWeb_ends, i_MoveWeb_ends, p_MoveWeb_ends⟩, b_MoveWeb_ends⟩,
    d_MoveWeb_closed := ⟨_, _, F_MoveWeb_closed, ⟨a_MoveWeb_closed, i_MoveWeb_closed, p_MoveWeb_closed⟩, b_MoveWeb_closed⟩,
    d_MoveWeb_begun := ⟨_, _, F_MoveWeb_begun, ⟨a_MoveWeb_begun, i_MoveWeb_begun, p_MoveWeb_begun⟩, b_MoveWeb_begun⟩,
    d_MoveWeb_behind := ⟨_, _, F_MoveWeb_behind, ⟨a_MoveWeb_behind, i_MoveWeb_behind, p_MoveWeb_behind⟩, b_MoveWeb_behind⟩,
    d_MoveWeb_least_end := ⟨_, _, F_MoveWeb_least_end, ⟨a_MoveWeb_least_end, i_MoveWeb_least_end, p_MoveWeb_least_end⟩, b_MoveWeb_least_end⟩,
    d_least_of := ⟨_, _, F_least_of, PySem.W.mg_of X G a_least_of, b_least_of⟩,
    d_floor_paper := ⟨_, _, F_floor_paper, PySem.W.mg_of X G a_floor_paper, b_floor_paper⟩,
    d_are_floor_rows := ⟨_, _, F_are_floor_rows, PySem.W.mg_of X G a_are_floor_rows, b_are_floor_rows⟩,
    d_keeps_moves := ⟨_, _, F_keeps_moves, PySem.W.mg_of X G a_keeps_moves, b_keeps_moves⟩,
    d_is_floor := ⟨_, _, F_is_floor, PySem.W.mg_of X G a_is_floor, b_is_floor⟩,
    d_law_pool := ⟨_, _, F_law_pool, PySem.W.mg_of X G a_law_pool, b_law_pool⟩,
    d_law_draw := ⟨_, _, F_law_draw, PySem.W.mg_of X G a_law_draw, b_law_draw⟩,
    d_law_letters := ⟨_, _, F_law_letters, PySem.W.mg_of X G a_law_letters, b_law_letters⟩,
    d_law_text := ⟨_, _, F_law_text, PySem.W.mg_of X G a_law_text, b_law_text⟩,
    d_law_book := ⟨_, _, F_law_book, PySem.W.mg_of X G a_law_book, b_law_book⟩,
    d_law_machine := ⟨_, _, F_law_machine, PySem.W.mg_of X G a_law_machine, b_law_machine⟩,
    d_law_house := ⟨_, _, F_law_house, PySem.W.mg_of X G a_law_house, b_law_house⟩,
    d_law_full := ⟨_, _, F_law_full, PySem.W.mg_of X G a_law_full, b_law_full⟩,
    d_law_pair := ⟨_, _, F_law_pair, PySem.W.mg_of X G a_law_pair, b_law_pair⟩,
    d_law_standings := ⟨_, _, F_law_standings, PySem.W.mg_of X G a_law_standings, b_law_standings⟩,
    d_law_moves := ⟨_, _, F_law_moves, PySem.W.mg_of X G a_law_moves, b_law_moves⟩,
    d_law_least := ⟨_, _, F_law_least, PySem.W.mg_of X G a_law_least, b_law_least⟩,
    d_law_integer := ⟨_, _, F_law_integer, PySem.W.mg_of X G a_law_integer, b_law_integer⟩,
    d_law_is_floor := ⟨_, _, F_law_is_floor, PySem.W.mg_of X G a_law_is_floor, b_law_is_floor⟩,
    d_law_own_floors := ⟨_, _, F_law_own_floors, PySem.W.mg_of X G a_law_own_floors, b_law_own_floors⟩,
    d_law_bent := ⟨_, _, F_law_bent, PySem.W.mg_of X G a_law_bent, b_law_bent⟩,
    d_law_asked := ⟨_, _, F_law_asked, PySem.W.mg_of X G a_law_asked, b_law_asked⟩,
    d_law := ⟨_, _, F_law, PySem.W.mg_of X G a_law, b_law⟩ }⟩
theorem walk {l : PySem.W.OpenLaw} {q : Program} {loose : List Str} {XP : (Str → Option Value) → Heap → Prop} {YP : World → Heap → Prop} {d : DefRec} {K : Params → PySem.W.Frag} (hn : l.most = some 63) (hdf : d.params.defaults = [])
    (hY : ∀ (w : World) (h : Heap), YP w h → (K w.params).In h)
    (F : ∀ (w : World) (mg : Str → Option Value) (fa : Addr) (h : Heap), (K w.params).In h → h.Ns mainGlobals mg → mg d.name = some (.ref fa) →
      ∃ fd : FuncData, (∀ (s : Shared) (u : Value), BindsTo s fd ⟨[u], []⟩ [("script", u)]) ∧ ∀ base : Heap, (K w.params).In base → base.Ns mainGlobals mg → FnOk l.prog w (K w.params) mg base CX0 10 fa fd ["script"] (spLaw (K w.params))) :
    PySem.W.WalkO q loose XP YP l.row.toRowW d [] (fun f vs => PySem.call f vs) :=
  L2.walk_of (n := 63) (k := 10) (x := "script") (CX := fun _ => CX0) (sp := fun w => spLaw (K w.params)) hn (by decide) hdf ⟨rfl, by decide, by decide⟩ hY F (fun _ _ a ns hl _ hS => ⟨a, ns, rfl, hS, hl, fun _ => rfl⟩) fun _ _ _ _ _ z => z
end Fm

open PySem PySem.W PyProof.Rows in
set_option maxRecDepth 100000 in
set_option maxHeartbeats 0 in
theorem PySem.Challenge.cw_fewmends_k78_whole_floors_holds : PySem.Challenge.rw_fewmends_k78_whole_floors.Holds := by
  w_on; o_law; k_head; (case hw => w_witness2)
  k_fill
  refine Fm.walk (l := PySem.Challenge.rw_fewmends_k78_whole_floors) rfl rfl (fun w h Y => PySem.W.kIn_of Y) ?F
  case F =>
    intro w mg fa h KX G hmg
    refine' Fm.all_mk KX G hmg ?z_len ?z_range ?z_enumerate ?z_list ?z_tuple ?z_sorted ?z_min ?z_max ?z_set ?z_int ?z_str ?z_isinstance ?z_bool ?g_MoveWeb ?pg_MoveWeb ?hd_MoveWeb ?po_MoveWeb ?sa_MoveWeb ?mks_MoveWeb ?kc_MoveWeb ?na_MoveWeb_book ?na_MoveWeb_machine ?na_MoveWeb_standings ?na_MoveWeb_homes ?na_MoveWeb_silent ?na_MoveWeb_reading ?a_is_whole ?l_is_whole ?k_is_whole ?p_is_whole ?a_steps_by_state ?l_steps_by_state ?k_steps_by_state ?p_steps_by_state ?a_states_behind ?l_states_behind ?k_states_behind ?p_states_behind ?a_states_along ?l_states_along ?k_states_along ?p_states_along ?a_rests_of ?l_rests_of ?k_rests_of ?p_rests_of ?a_MoveWeb_init ?i_MoveWeb_init ?l_MoveWeb_init ?k_MoveWeb_init ?p_MoveWeb_init ?a_MoveWeb_put_moves ?i_MoveWeb_put_moves ?l_MoveWeb_put_moves ?k_MoveWeb_put_moves ?p_MoveWeb_put_moves ?a_MoveWeb_put_edits ?i_MoveWeb_put_edits ?l_MoveWeb_put_edits ?k_MoveWeb_put_edits ?p_MoveWeb_put_edits ?a_MoveWeb_is_end ?i_MoveWeb_is_end ?l_MoveWeb_is_end ?k_MoveWeb_is_end ?p_MoveWeb_is_end ?a_MoveWeb_ends ?i_MoveWeb_ends ?l_MoveWeb_ends ?k_MoveWeb_ends ?p_MoveWeb_ends ?a_MoveWeb_closed ?i_MoveWeb_closed ?l_MoveWeb_closed ?k_MoveWeb_closed ?p_MoveWeb_closed ?a_MoveWeb_begun ?i_MoveWeb_begun ?l_MoveWeb_begun ?k_MoveWeb_begun ?p_MoveWeb_begun ?a_MoveWeb_behind ?i_MoveWeb_behind ?l_MoveWeb_behind ?k_MoveWeb_behind ?p_MoveWeb_behind ?a_MoveWeb_least_end ?i_MoveWeb_least_end ?l_MoveWeb_least_end ?k_MoveWeb_least_end ?p_MoveWeb_least_end ?a_least_of ?l_least_of ?k_least_of ?p_least_of ?a_floor_paper ?l_floor_paper ?k_floor_paper ?p_floor_paper ?a_are_floor_rows ?l_are_floor_rows ?k_are_floor_rows ?p_are_floor_rows ?a_keeps_moves ?l_keeps_moves ?k_keeps_moves ?p_keeps_moves ?a_is_floor ?l_is_floor ?k_is_floor ?p_is_floor ?a_law_pool ?l_law_pool ?k_law_pool ?p_law_pool ?a_law_draw ?l_law_draw ?k_law_draw ?p_law_draw ?a_law_letters ?l_law_letters ?k_law_letters ?p_law_letters ?a_law_text ?l_law_text ?k_law_text ?p_law_text ?a_law_book ?l_law_book ?k_law_book ?p_law_book ?a_law_machine ?l_law_machine ?k_law_machine ?p_law_machine ?a_law_house ?l_law_house ?k_law_house ?p_law_house ?a_law_full ?l_law_full ?k_law_full ?p_law_full ?a_law_pair ?l_law_pair ?k_law_pair ?p_law_pair ?a_law_standings ?l_law_standings ?k_law_standings ?p_law_standings ?a_law_moves ?l_law_moves ?k_law_moves ?p_law_moves ?a_law_least ?l_law_least ?k_law_least ?p_law_least ?a_law_integer ?l_law_integer ?k_law_integer ?p_law_integer ?a_law_is_floor ?l_law_is_floor ?k_law_is_floor ?p_law_is_floor ?a_law_own_floors ?l_law_own_floors ?k_law_own_floors ?p_law_own_floors ?a_law_bent ?l_law_bent ?k_law_bent ?p_law_bent ?a_law_asked ?l_law_asked ?k_law_asked ?p_law_asked ?a_law ?l_law ?k_law ?p_law
    (case z_len => k_is)
    (case z_range => k_is)
    (case z_enumerate => k_is)
    (case z_list => k_is)
    (case z_tuple => k_is)
    (case z_sorted => k_is)
    (case z_min => k_is)
    (case z_max => k_is)
    (case z_set => k_is)
    (case z_int => k_is)
    (case z_str => k_is)
    (case z_isinstance => k_is)
    (case z_bool => k_is)
    (case g_MoveWeb => k_is)
    (case pg_MoveWeb => k_is)
    (case hd_MoveWeb => k_is)
    (case po_MoveWeb => k_is)
    (case sa_MoveWeb => k_is)
    (case mks_MoveWeb => k_is)
    (case kc_MoveWeb => k_is)
    (case na_MoveWeb_book => k_is)
    (case na_MoveWeb_machine => k_is)
    (case na_MoveWeb_standings => k_is)
    (case na_MoveWeb_homes => k_is)
    (case na_MoveWeb_silent => k_is)
    (case na_MoveWeb_reading => k_is)
    (case a_is_whole => k_is)
    (case l_is_whole => k_is)
    (case k_is_whole => k_is)
    (case p_is_whole => k_is)
    (case a_steps_by_state => k_is)
    (case l_steps_by_state => k_is)
    (case k_steps_by_state => k_is)
    (case p_steps_by_state => k_is)
    (case a_states_behind => k_is)
    (case l_states_behind => k_is)
    (case k_states_behind => k_is)
    (case p_states_behind => k_is)
    (case a_states_along => k_is)
    (case l_states_along => k_is)
    (case k_states_along => k_is)
    (case p_states_along => k_is)
    (case a_rests_of => k_is)
    (case l_rests_of => k_is)
    (case k_rests_of => k_is)
    (case p_rests_of => k_is)
    (case a_MoveWeb_init => k_is)
    (case i_MoveWeb_init => k_is)
    (case l_MoveWeb_init => k_is)
    (case k_MoveWeb_init => k_is)
    (case p_MoveWeb_init => k_is)
    (case a_MoveWeb_put_moves => k_is)
    (case i_MoveWeb_put_moves => k_is)
    (case l_MoveWeb_put_moves => k_is)
    (case k_MoveWeb_put_moves => k_is)
    (case p_MoveWeb_put_moves => k_is)
    (case a_MoveWeb_put_edits => k_is)
    (case i_MoveWeb_put_edits => k_is)
    (case l_MoveWeb_put_edits => k_is)
    (case k_MoveWeb_put_edits => k_is)
    (case p_MoveWeb_put_edits => k_is)
    (case a_MoveWeb_is_end => k_is)
    (case i_MoveWeb_is_end => k_is)
    (case l_MoveWeb_is_end => k_is)
    (case k_MoveWeb_is_end => k_is)
    (case p_MoveWeb_is_end => k_is)
    (case a_MoveWeb_ends => k_is)
    (case i_MoveWeb_ends => k_is)
    (case l_MoveWeb_ends => k_is)
    (case k_MoveWeb_ends => k_is)
    (case p_MoveWeb_ends => k_is)
    (case a_MoveWeb_closed => k_is)
    (case i_MoveWeb_closed => k_is)
    (case l_MoveWeb_closed => k_is)
    (case k_MoveWeb_closed => k_is)
    (case p_MoveWeb_closed => k_is)
    (case a_MoveWeb_begun => k_is)
    (case i_MoveWeb_begun => k_is)
    (case l_MoveWeb_begun => k_is)
    (case k_MoveWeb_begun => k_is)
    (case p_MoveWeb_begun => k_is)
    (case a_MoveWeb_behind => k_is)
    (case i_MoveWeb_behind => k_is)
    (case l_MoveWeb_behind => k_is)
    (case k_MoveWeb_behind => k_is)
    (case p_MoveWeb_behind => k_is)
    (case a_MoveWeb_least_end => k_is)
    (case i_MoveWeb_least_end => k_is)
    (case l_MoveWeb_least_end => k_is)
    (case k_MoveWeb_least_end => k_is)
    (case p_MoveWeb_least_end => k_is)
    (case a_least_of => k_is)
    (case l_least_of => k_is)
    (case k_least_of => k_is)
    (case p_least_of => k_is)
    (case a_floor_paper => k_is)
    (case l_floor_paper => k_is)
    (case k_floor_paper => k_is)
    (case p_floor_paper => k_is)
    (case a_are_floor_rows => k_is)
    (case l_are_floor_rows => k_is)
    (case k_are_floor_rows => k_is)
    (case p_are_floor_rows => k_is)
    (case a_keeps_moves => k_is)
    (case l_keeps_moves => k_is)
    (case k_keeps_moves => k_is)
    (case p_keeps_moves => k_is)
    (case a_is_floor => k_is)
    (case l_is_floor => k_is)
    (case k_is_floor => k_is)
    (case p_is_floor => k_is)
    (case a_law_pool => k_is)
    (case l_law_pool => k_is)
    (case k_law_pool => k_is)
    (case p_law_pool => k_is)
    (case a_law_draw => k_is)
    (case l_law_draw => k_is)
    (case k_law_draw => k_is)
    (case p_law_draw => k_is)
    (case a_law_letters => k_is)
    (case l_law_letters => k_is)
    (case k_law_letters => k_is)
    (case p_law_letters => k_is)
    (case a_law_text => k_is)
    (case l_law_text => k_is)
    (case k_law_text => k_is)
    (case p_law_text => k_is)
    (case a_law_book => k_is)
    (case l_law_book => k_is)
    (case k_law_book => k_is)
    (case p_law_book => k_is)
    (case a_law_machine => k_is)
    (case l_law_machine => k_is)
    (case k_law_machine => k_is)
    (case p_law_machine => k_is)
    (case a_law_house => k_is)
    (case l_law_house => k_is)
    (case k_law_house => k_is)
    (case p_law_house => k_is)
    (case a_law_full => k_is)
    (case l_law_full => k_is)
    (case k_law_full => k_is)
    (case p_law_full => k_is)
    (case a_law_pair => k_is)
    (case l_law_pair => k_is)
    (case k_law_pair => k_is)
    (case p_law_pair => k_is)
    (case a_law_standings => k_is)
    (case l_law_standings => k_is)
    (case k_law_standings => k_is)
    (case p_law_standings => k_is)
    (case a_law_moves => k_is)
    (case l_law_moves => k_is)
    (case k_law_moves => k_is)
    (case p_law_moves => k_is)
    (case a_law_least => k_is)
    (case l_law_least => k_is)
    (case k_law_least => k_is)
    (case p_law_least => k_is)
    (case a_law_integer => k_is)
    (case l_law_integer => k_is)
    (case k_law_integer => k_is)
    (case p_law_integer => k_is)
    (case a_law_is_floor => k_is)
    (case l_law_is_floor => k_is)
    (case k_law_is_floor => k_is)
    (case p_law_is_floor => k_is)
    (case a_law_own_floors => k_is)
    (case l_law_own_floors => k_is)
    (case k_law_own_floors => k_is)
    (case p_law_own_floors => k_is)
    (case a_law_bent => k_is)
    (case l_law_bent => k_is)
    (case k_law_bent => k_is)
    (case p_law_bent => k_is)
    (case a_law_asked => k_is)
    (case l_law_asked => k_is)
    (case k_law_asked => k_is)
    (case p_law_asked => k_is)
    (case a_law => k_is)
    (case l_law => k_is)
    (case k_law => k_is)
    (case p_law => k_is)
