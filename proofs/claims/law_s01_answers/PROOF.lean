import PyProof.Rows.All
import Wide.All
import OpenK.AllK
import Wide.FinOn
import KE.KDictKeyed
import KE.KDictCopyH
import HandS.ForMost
import HandS.Conv
import KE.SortData
import KE.KDictZip
import KE.KDictItemsList
import HandS.Zip
import HandS.ExcCtx
import HandS.ExcInit
import HandS.More
import PyProof.ListMulRoad
import PyProof.FactsAll.tuple_2
import HandS.TupMul
import HandS.HotCalls
import HandS.ExcInitHot
import PyProof.EqAt
import PyProof.EqKinds
import PyProof.TupleCall
import Open.SpecLaws
import KE.OsGo
import HandS.ForSpec
import HandS.ExcField
import HandS.IsInst
import HandS.Style
import HandS.TupAny
import HandS.CallLocal
import HandS.FStr
import KE.BitLaws
import KE.OsSetLaws
import PySem.Challenge.RW_lostrequests_s01_answers
import PyZn43
set_option Elab.async false
set_option linter.all false
section
/-! Reading a value, octet by octet, with a stack of open lists and records: the program's way, against RWire's recursion. Plain Lean. -/
namespace Zp
open RWire

/-- a list or a record that is being read -/
structure Fr where
  isr : Bool
  many : Nat
  names : List Text
  members : List Value

def Fr.whole (f : Fr) : Value := if f.isr then .record (f.names.zip f.members) else .list f.members
def Fr.add (f : Fr) (v : Value) : Fr := { f with members := f.members ++ [v] }

/-- where the reader stands: a: at a turn's start; b: behind a name; c: a value was found; d: done -/
inductive MS where
  | a (s : List Fr) (b : Octets)
  | b (s : List Fr) (b : Octets)
  | c (s : List Fr) (v : Value) (b : Octets)
  | d (v : Value) (b : Octets)

/-- a value of no list and no record -/
def plain (k : Nat) (r : Octets) : Option (Value × Octets) :=
  match k with
  | 0 => some (.nothing, r)
  | 1 => some (.null, r)
  | 2 => some (.bool false, r)
  | 3 => some (.bool true, r)
  | 4 => readInt r
  | 6 => readWords r
  | _ => none

def stp : MS → Option MS
  | .a [] b => some (.b [] b)
  | .a (f :: s) b => if f.isr then (readText b).map fun p => .b ({ f with names := f.names ++ [p.1] } :: s) p.2 else some (.b (f :: s) b)
  | .b _ [] => none
  | .b s (k :: r) =>
    if k.toNat = 7 ∨ k.toNat = 8 then (readNum 4 r).map fun p => if p.1 = 0 then .c s (Fr.whole ⟨k.toNat == 8, 0, [], []⟩) p.2 else .a (⟨k.toNat == 8, p.1, [], []⟩ :: s) p.2
    else (plain k.toNat r).map fun p => .c s p.1 p.2
  | .c [] v b => some (.d v b)
  | .c (f :: s) v b => if (f.add v).members.length < f.many then some (.a (f.add v :: s) b) else some (.c s (f.add v).whole b)
  | .d _ _ => none

/-- the reader comes to an end with this -/
inductive Runs : MS → Value → Octets → Prop
  | done (v : Value) (b : Octets) : Runs (.d v b) v b
  | step {x y : MS} {v : Value} {b : Octets} : stp x = some y → Runs y v b → Runs x v b

theorem Runs.next {x y : MS} {v : Value} {b : Octets} (h : Runs x v b) (e : stp x = some y) : Runs y v b := by
  cases h with
  | done => cases e
  | step e' h' => rw [e'] at e; cases e; exact h'
theorem Runs.some {x : MS} {v : Value} {b : Octets} (h : Runs x v b) : (∃ y, stp x = Option.some y ∧ Runs y v b) ∨ x = .d v b := by
  cases h with
  | done => exact .inr rfl
  | step e h => exact .inl ⟨_, e, h⟩

/-- the kinds that this document has -/
def kin (v : Value) : Bool := noBig v && (noOctets v && noWide v)
def kinAll (l : List Value) : Bool := noBigMany l && (noOctetsMany l && noWideMany l)
def kinEnt (l : List (Text × Value)) : Bool := noBigEntries l && (noOctetsEntries l && noWideEntries l)
theorem kinAll_cons {v : Value} {l : List Value} : kinAll (v :: l) = true ↔ kin v = true ∧ kinAll l = true := by
  simp only [kinAll, kin, noBigMany, noOctetsMany, noWideMany, Bool.and_eq_true]
  constructor
  · rintro ⟨⟨a, b⟩, ⟨c, d⟩, e, f⟩; exact ⟨⟨a, c, e⟩, b, d, f⟩
  · rintro ⟨⟨a, c, e⟩, b, d, f⟩; exact ⟨⟨a, b⟩, ⟨c, d⟩, e, f⟩
theorem kinEnt_cons {e : Text × Value} {l : List (Text × Value)} : kinEnt (e :: l) = true ↔ kin e.2 = true ∧ kinEnt l = true := by
  simp only [kinEnt, kin, noBigEntries, noOctetsEntries, noWideEntries, Bool.and_eq_true]
  constructor
  · rintro ⟨⟨a, b⟩, ⟨c, d⟩, e, f⟩; exact ⟨⟨a, c, e⟩, b, d, f⟩
  · rintro ⟨⟨a, c, e⟩, b, d, f⟩; exact ⟨⟨a, b⟩, ⟨c, d⟩, e, f⟩
theorem kin_list {l : List Value} : kin (.list l) = kinAll l := rfl
theorem kin_record {l : List (Text × Value)} : kin (.record l) = kinEnt l := rfl

theorem zip_snoc {α β : Type} : ∀ {l : List α} {m : List β} {a : α} {b : β}, l.length = m.length → (l ++ [a]).zip (m ++ [b]) = l.zip m ++ [(a, b)]
  | [], [], _, _, _ => rfl
  | x :: l, y :: m, a, b, h => by
    have ih := zip_snoc (l := l) (m := m) (a := a) (b := b) (by simpa using h)
    show (x, y) :: ((l ++ [a]).zip (m ++ [b])) = (x, y) :: (l.zip m ++ [(a, b)])
    rw [ih]
  | [], y :: m, _, _, h => by simp at h
  | x :: l, [], _, _, h => by simp at h

theorem fr_list {n : Nat} {names : List Text} {ms : List Value} : Fr.whole ⟨false, n, names, ms⟩ = .list ms := rfl
theorem fr_rec {n : Nat} {names : List Text} {ms : List Value} : Fr.whole ⟨true, n, names, ms⟩ = .record (names.zip ms) := rfl

/-- what a value's reader gives: from behind the name, to the value found -/
def Good (f : Octets → Option (Value × Octets)) : Prop := ∀ (s : List Fr) (b : Octets) (v : Value) (r : Octets) (w : Value) (r' : Octets), f b = some (v, r) → kin v = true → Runs (.c s v r) w r' → Runs (.b s b) w r'

theorem many_list {f : Octets → Option (Value × Octets)} (hf : Good f) {n : Nat} {s : List Fr} {w : Value} {r' : Octets} : ∀ (k : Nat) (acc : List Value) (b : Octets) (l : List Value) (r : Octets), acc.length + (k + 1) = n →
    readMany f (k + 1) b = some (l, r) → kinAll l = true → Runs (.c s (.list (acc ++ l)) r) w r' → Runs (.a (⟨false, n, [], acc⟩ :: s) b) w r'
  | k, acc, b, l, r, hn, hr, hk, h => by
    rw [readMany] at hr
    split at hr
    · cases hr
    · rename_i p hp
      obtain ⟨v, b1⟩ := p
      split at hr
      · cases hr
      · rename_i q hq
        obtain ⟨l', r1⟩ := q
        cases hr
        obtain ⟨hv, hl⟩ := kinAll_cons.mp hk
        refine .step (y := .b (⟨false, n, [], acc⟩ :: s) b) rfl (hf _ _ _ _ _ _ hp hv ?_)
        cases k with
        | zero =>
          cases hq
          refine .step (y := .c s (.list (acc ++ [v])) b1) ?_ h
          have : ¬ (acc ++ [v]).length < n := by simp; omega
          simp [stp, Fr.add, fr_list]
          omega
        | succ k =>
          refine .step (y := .a (⟨false, n, [], acc ++ [v]⟩ :: s) b1) ?_ (many_list hf k (acc ++ [v]) b1 l' r1 (by simp; omega) hq hl ?_)
          · simp [stp, Fr.add]
            omega
          · rw [List.append_assoc]; exact h
theorem many_rec {f : Octets → Option (Value × Octets)} (hf : Good f) {n : Nat} {s : List Fr} {w : Value} {r' : Octets} : ∀ (k : Nat) (ns : List Text) (acc : List Value) (b : Octets) (l : List (Text × Value)) (r : Octets), ns.length = acc.length → acc.length + (k + 1) = n →
    readMany (readEntry f) (k + 1) b = some (l, r) → kinEnt l = true → Runs (.c s (.record (ns.zip acc ++ l)) r) w r' → Runs (.a (⟨true, n, ns, acc⟩ :: s) b) w r'
  | k, ns, acc, b, l, r, he, hn, hr, hk, h => by
    rw [readMany] at hr
    split at hr
    · cases hr
    · rename_i p hp
      obtain ⟨⟨nm, v⟩, b1⟩ := p
      split at hr
      · cases hr
      · rename_i q hq
        obtain ⟨l', r1⟩ := q
        cases hr
        obtain ⟨hv, hl⟩ := kinEnt_cons.mp hk
        rw [readEntry] at hp
        split at hp
        · cases hp
        · rename_i t ht
          obtain ⟨tx, b2⟩ := t
          split at hp
          · cases hp
          · rename_i u hu
            obtain ⟨v', b3⟩ := u
            cases hp
            refine .step (y := .b (⟨true, n, ns ++ [tx], acc⟩ :: s) b2) (by simp [stp, ht]) (hf _ _ _ _ _ _ hu hv ?_)
            cases k with
            | zero =>
              cases hq
              refine .step (y := .c s (.record (ns.zip acc ++ [(tx, v')])) b3) ?_ h
              simp [stp, Fr.add, fr_rec, zip_snoc he]
              omega
            | succ k =>
              refine .step (y := .a (⟨true, n, ns ++ [tx], acc ++ [v']⟩ :: s) b3) ?_ (many_rec hf k (ns ++ [tx]) (acc ++ [v']) b3 l' r1 (by simp [he]) (by simp; omega) hq hl ?_)
              · simp [stp, Fr.add]
                omega
              · rw [zip_snoc he, List.append_assoc]; exact h

theorem readF_good : ∀ d : Nat, Good (readF d)
  | 0 => fun s b v r w r' h _ _ => by cases h
  | d + 1 => fun s b v r w r' h hk hc => by
    cases b with
    | nil => cases h
    | cons k b =>
      have ih := readF_good d
      rw [readF] at h
      have ks : k.toNat = 0 ∨ k.toNat = 1 ∨ k.toNat = 2 ∨ k.toNat = 3 ∨ k.toNat = 4 ∨ k.toNat = 5 ∨ k.toNat = 6 ∨ k.toNat = 7 ∨ k.toNat = 8 ∨ k.toNat = 10 ∨ k.toNat = 11 ∨ readKind (readF d) k.toNat b = none := by
        generalize k.toNat = m
        match m with
        | 0 | 1 | 2 | 3 | 4 | 5 | 6 | 7 | 8 | 10 | 11 => simp
        | 9 => simp [readKind]
        | m + 12 => simp [readKind]
      rcases ks with e | e | e | e | e | e | e | e | e | e | e | e
      case _ => rw [e] at h; cases h; exact .step (by simp [stp, plain, e]) hc
      case _ => rw [e] at h; cases h; exact .step (by simp [stp, plain, e]) hc
      case _ => rw [e] at h; cases h; exact .step (by simp [stp, plain, e]) hc
      case _ => rw [e] at h; cases h; exact .step (by simp [stp, plain, e]) hc
      case _ =>
        rw [e] at h
        have h : readInt b = some (v, r) := h
        exact .step (by simp [stp, plain, e, h]) hc
      case _ =>
        rw [e] at h
        have h : readBig b = some (v, r) := h
        unfold readBig at h
        split at h
        · cases h
        · split at h
          · cases h
          · split at h
            · cases h
            · split at h
              · cases h
              · cases h
                simp [kin, noBig] at hk
      case _ =>
        rw [e] at h
        have h : readWords b = some (v, r) := h
        exact .step (by simp [stp, plain, e, h]) hc
      case _ =>
        rw [e] at h
        have h : readList (readF d) b = some (v, r) := h
        unfold readList at h
        split at h
        · cases h
        · rename_i p hp
          obtain ⟨n, b1⟩ := p
          split at h
          · cases h
          · rename_i q hq
            obtain ⟨l, r1⟩ := q
            cases h
            rw [kin_list] at hk
            cases n with
            | zero =>
              cases hq
              exact .step (by simp [stp, e, hp, fr_list]) hc
            | succ n =>
              refine .step (y := .a (⟨false, n + 1, [], []⟩ :: s) b1) (by simp [stp, e, hp]) ?_
              exact many_list ih n [] b1 l r1 (by simp) hq hk hc
      case _ =>
        rw [e] at h
        have h : readRecord (readF d) b = some (v, r) := h
        unfold readRecord at h
        split at h
        · cases h
        · rename_i p hp
          obtain ⟨n, b1⟩ := p
          split at h
          · cases h
          · rename_i q hq
            obtain ⟨l, r1⟩ := q
            split at h
            · cases h
              rw [kin_record] at hk
              cases n with
              | zero =>
                cases hq
                exact .step (by simp [stp, e, hp, fr_rec]) hc
              | succ n =>
                refine .step (y := .a (⟨true, n + 1, [], []⟩ :: s) b1) (by simp [stp, e, hp]) ?_
                exact many_rec ih n [] [] b1 l r1 rfl (by simp) hq hk hc
            · cases h
      case _ =>
        rw [e] at h
        have h : readOctets b = some (v, r) := h
        unfold readOctets at h
        split at h
        · cases h
        · cases h
          simp [kin, noOctets] at hk
      case _ =>
        rw [e] at h
        have h : readWide b = some (v, r) := h
        unfold readWide at h
        split at h
        · cases h
        · split at h
          · cases h
          · split at h
            · cases h
              simp [kin, noWide] at hk
            · cases h
      case _ => rw [e] at h; cases h

/-- THE READER: what RWire reads, the machine reads -/
theorem reads {d : Nat} {b : Octets} {v : Value} {r : Octets} (h : readF d b = some (v, r)) (hk : kin v = true) : Runs (.a [] b) v r :=
  .step rfl (readF_good d [] b v r v r h hk (.step rfl (.done v r)))
end Zp
end
section
/-! Writing a value by a pile of what is left; numbers in octets. Plain Lean. -/
namespace Zp
open RWire

/-- what is left to be written: octets, or a value -/
inductive Lf where
  | oct (l : Octets)
  | val (v : Value)
def Lf.flat : Lf → Octets
  | .oct l => l
  | .val v => write v
/-- the octets of all that is left; the last one is taken first -/
def flats (left : List Lf) : Octets := left.reverse.flatMap Lf.flat
theorem flats_nil : flats [] = [] := rfl
theorem flats_snoc (l : List Lf) (x : Lf) : flats (l ++ [x]) = x.flat ++ flats l := by
  simp [flats]
theorem flats_app (l m : List Lf) : flats (l ++ m) = flats m ++ flats l := by
  simp [flats]

/-- what is written at once -/
def headOf : Value → Octets
  | .nothing => [0]
  | .null => [1]
  | .bool b => [if b then 3 else 2]
  | .int i => 4 :: writeInt i
  | .big i => 5 :: writeBig i
  | .text u => 6 :: writeText u
  | .octets u => 10 :: writeText u
  | .wide u => 11 :: writeWide u
  | .list l => 7 :: writeCount l.length
  | .record l => 8 :: writeCount l.length
/-- what is put onto the pile -/
def kidsEnt : List (Text × Value) → List Lf
  | [] => []
  | e :: r => kidsEnt r ++ [.val e.2, .oct (writeText e.1)]
def kids : Value → List Lf
  | .list l => (l.map Lf.val).reverse
  | .record l => kidsEnt l
  | _ => []
theorem flats_many : ∀ l : List Value, flats ((l.map Lf.val).reverse) = writeMany l
  | [] => rfl
  | v :: r => by
    rw [List.map_cons, List.reverse_cons, flats_snoc, flats_many r]
    rfl
theorem flats_ent : ∀ l : List (Text × Value), flats (kidsEnt l) = writeEntries l
  | [] => rfl
  | e :: r => by
    show flats (kidsEnt r ++ [.val e.2, .oct (writeText e.1)]) = _
    rw [flats_app, flats_ent r]
    simp [flats, Lf.flat, writeEntries]
theorem write_kids : ∀ v : Value, write v = headOf v ++ flats (kids v)
  | .nothing => rfl
  | .null => rfl
  | .bool b => by simp [write, headOf, kids, flats]
  | .int i => by simp [write, headOf, kids, flats]
  | .big i => by simp [write, headOf, kids, flats]
  | .text u => by simp [write, headOf, kids, flats]
  | .octets u => by simp [write, headOf, kids, flats]
  | .wide u => by simp [write, headOf, kids, flats]
  | .list l => by
    show _ = headOf _ ++ flats ((l.map Lf.val).reverse)
    rw [flats_many, write, headOf]
    rfl
  | .record l => by
    show _ = headOf _ ++ flats (kidsEnt l)
    rw [flats_ent, write, headOf]
    rfl

mutual
def wtV : Value → Nat
  | .list l => wtM l + 1
  | .record l => wtE l + 1
  | .nothing => 1 | .null => 1 | .bool _ => 1 | .int _ => 1 | .big _ => 1 | .text _ => 1 | .octets _ => 1 | .wide _ => 1
def wtM : List Value → Nat
  | [] => 0
  | v :: r => wtV v + wtM r
def wtE : List (Text × Value) → Nat
  | [] => 0
  | e :: r => wtV e.2 + 1 + wtE r
end
def Lf.wt : Lf → Nat
  | .oct _ => 1
  | .val v => wtV v
def wts (l : List Lf) : Nat := (l.map Lf.wt).sum
theorem wts_app (l m : List Lf) : wts (l ++ m) = wts l + wts m := by simp [wts]
theorem wts_many : ∀ l : List Value, wts ((l.map Lf.val).reverse) = wtM l
  | [] => rfl
  | v :: r => by
    rw [List.map_cons, List.reverse_cons, wts_app, wts_many r]
    simp [wts, Lf.wt, wtM]
    omega
theorem wts_ent : ∀ l : List (Text × Value), wts (kidsEnt l) = wtE l
  | [] => rfl
  | e :: r => by
    show wts (kidsEnt r ++ [.val e.2, .oct (writeText e.1)]) = _
    rw [wts_app, wts_ent r]
    simp [wts, Lf.wt, wtE]
    omega
theorem wts_kids (v : Value) : wts (kids v) < wtV v := by
  cases v with
  | list l =>
    show wts ((l.map Lf.val).reverse) < wtM l + 1
    rw [wts_many]
    omega
  | record l =>
    show wts (kidsEnt l) < wtE l + 1
    rw [wts_ent]
    omega
  | _ => simp [kids, wts, wtV]

/-! ### numbers -/
def oi (l : Octets) : List Int := l.map fun b => (b.toNat : Int)
theorem oi_app (l m : Octets) : oi (l ++ m) = oi l ++ oi m := List.map_append ..
theorem oi_len (l : Octets) : (oi l).length = l.length := List.length_map ..
/-- the octet at a place of a number -/
def octAt (i : Int) (p : Nat) : Int := i / 2 ^ (8 * p) % 256
theorem low_get : ∀ (k n p : Nat), p < k → (low k n)[p]? = some (UInt8.ofNat (n / 256 ^ p))
  | 0, _, _, h => absurd h (Nat.not_lt_zero _)
  | k + 1, n, 0, _ => by simp [low]
  | k + 1, n, p + 1, h => by
    rw [low, List.getElem?_cons_succ, low_get k (n / 256) p (Nat.lt_of_succ_lt_succ h), Nat.div_div_eq_div_mul, Nat.pow_succ, Nat.mul_comm]
theorem low_length : ∀ (k n : Nat), (low k n).length = k
  | 0, _ => rfl
  | k + 1, n => by rw [low, List.length_cons, low_length k]
theorem toNat_ofNat (n : Nat) : (UInt8.ofNat n).toNat = n % 256 := by simp
theorem octAt_nat (n p : Nat) : octAt (n : Int) p = ((n / 256 ^ p % 256 : Nat) : Int) := by
  unfold octAt
  have e : (2 : Int) ^ (8 * p) = ((256 ^ p : Nat) : Int) := by
    rw [Int.natCast_pow, Int.pow_mul]
    rfl
  rw [e, Int.natCast_emod, Int.natCast_ediv]
  rfl
theorem oi_low (k n : Nat) : oi (low k n) = (List.range k).map fun p => octAt n p := by
  apply List.ext_getElem?
  intro p
  unfold oi
  rw [List.getElem?_map, List.getElem?_map]
  by_cases h : p < k
  · rw [low_get k n p h, List.getElem?_range h]
    simp only [Option.map_some]
    rw [toNat_ofNat, octAt_nat]
  · rw [List.getElem?_eq_none (by rw [low_length]; omega), List.getElem?_eq_none (by rw [List.length_range]; omega)]
    rfl
theorem octAt_mod (i : Int) (p : Nat) (h : p < 8) : octAt (i % wordMost) p = octAt i p := by
  unfold octAt wordMost
  have hp : p = 0 ∨ p = 1 ∨ p = 2 ∨ p = 3 ∨ p = 4 ∨ p = 5 ∨ p = 6 ∨ p = 7 := by omega
  rcases hp with rfl | rfl | rfl | rfl | rfl | rfl | rfl | rfl <;> simp <;> omega
theorem oi_int (i : Int) : oi (writeInt i) = (List.range 8).map fun p => octAt i p := by
  unfold writeInt
  rw [oi_low]
  apply List.map_congr_left
  intro p hp
  have hp := List.mem_range.mp hp
  rw [Int.toNat_of_nonneg (Int.emod_nonneg _ (by decide)), octAt_mod i p hp]

theorem front_eq : ∀ (k : Nat) (b u r : Octets), front k b = some (u, r) → b = u ++ r ∧ u.length = k
  | 0, b, u, r, h => by cases h; exact ⟨rfl, rfl⟩
  | k + 1, [], u, r, h => by cases h
  | k + 1, a :: b, u, r, h => by
    rw [front] at h
    split at h
    · cases h
    · rename_i p hp
      cases h
      obtain ⟨h1, h2⟩ := front_eq k b _ _ hp
      exact ⟨by rw [h1]; rfl, by rw [List.length_cons, h2]⟩
theorem front_app : ∀ (u r : Octets), front u.length (u ++ r) = some (u, r)
  | [], r => rfl
  | a :: u, r => by
    show front (u.length + 1) (a :: (u ++ r)) = _
    rw [front, front_app u r]
theorem numOf_snoc : ∀ (l : Octets) (a : UInt8), numOf (l ++ [a]) = numOf l + a.toNat * 256 ^ l.length
  | [], a => by simp [numOf]
  | b :: l, a => by
    show b.toNat + 256 * numOf (l ++ [a]) = b.toNat + 256 * numOf l + a.toNat * 256 ^ (l.length + 1)
    rw [numOf_snoc l a, Nat.mul_add, Nat.pow_succ]
    rw [Nat.add_assoc]
    congr 2
    rw [Nat.mul_comm (256 ^ l.length) 256, Nat.mul_left_comm]
theorem numOf_lt : ∀ l : Octets, numOf l < 256 ^ l.length
  | [] => by simp [numOf]
  | a :: l => by
    have ih := numOf_lt l
    have h := UInt8.toNat_lt a
    show a.toNat + 256 * numOf l < 256 ^ (l.length + 1)
    rw [Nat.pow_succ]
    omega
theorem readNum_eq {k n : Nat} {b r : Octets} (h : readNum k b = some (n, r)) : ∃ u, b = u ++ r ∧ u.length = k ∧ n = numOf u := by
  unfold readNum at h
  split at h
  · cases h
  · rename_i p hp
    cases h
    obtain ⟨h1, h2⟩ := front_eq _ _ _ _ hp
    exact ⟨_, h1, h2, rfl⟩
theorem readText_eq {b r : Octets} {t : Text} (h : readText b = some (t, r)) : ∃ u, b = u ++ (t ++ r) ∧ u.length = 4 ∧ t.length = numOf u := by
  unfold readText at h
  split at h
  · cases h
  · rename_i p hp
    obtain ⟨n, b1⟩ := p
    obtain ⟨u, h1, h2, h3⟩ := readNum_eq hp
    obtain ⟨h4, h5⟩ := front_eq _ _ _ _ h
    exact ⟨u, by rw [h1]; exact congrArg _ h4, h2, by rw [h5]; exact h3⟩
end Zp
end
section
/-! Worlds: what the program keeps of them, against the specification's scenes. Plain Lean. -/
namespace Zw
open R7289g.Spec

/-! ### lists in strict order -/
theorem sorted_ext {α : Type} {R : α → α → Prop} (irr : ∀ a, ¬ R a a) (tr : ∀ a b c, R a b → R b c → R a c) : ∀ {l m : List α}, l.Pairwise R → m.Pairwise R → (∀ x, x ∈ l ↔ x ∈ m) → l = m
  | [], [], _, _, _ => rfl
  | [], b :: m, _, _, h => absurd ((h b).mpr List.mem_cons_self) (by simp)
  | a :: l, [], _, _, h => absurd ((h a).mp List.mem_cons_self) (by simp)
  | a :: l, b :: m, hl, hm, h => by
    have e : a = b := by
      rcases List.mem_cons.mp ((h a).mp List.mem_cons_self) with e | ha
      · exact e
      · rcases List.mem_cons.mp ((h b).mpr List.mem_cons_self) with e | hb
        · exact e.symm
        · exact absurd (tr _ _ _ ((List.pairwise_cons.mp hl).1 b hb) ((List.pairwise_cons.mp hm).1 a ha)) (irr a)
    subst e
    congr 1
    refine sorted_ext irr tr (List.pairwise_cons.mp hl).2 (List.pairwise_cons.mp hm).2 fun x => ?_
    constructor
    · intro hx
      rcases List.mem_cons.mp ((h x).mp (List.mem_cons_of_mem _ hx)) with e | h'
      · subst e; exact absurd ((List.pairwise_cons.mp hl).1 x hx) (irr x)
      · exact h'
    · intro hx
      rcases List.mem_cons.mp ((h x).mpr (List.mem_cons_of_mem _ hx)) with e | h'
      · subst e; exact absurd ((List.pairwise_cons.mp hm).1 x hx) (irr x)
      · exact h'
theorem ascending_ext {l m : List Nat} (hl : l.Pairwise (· < ·)) (hm : m.Pairwise (· < ·)) (h : ∀ x, x ∈ l ↔ x ∈ m) : l = m :=
  sorted_ext Nat.lt_irrefl (fun _ _ _ => Nat.lt_trans) hl hm h
/-- a list of different things among others is no longer -/
theorem nodup_len {α : Type} [DecidableEq α] : ∀ {l m : List α}, l.Nodup → (∀ x ∈ l, x ∈ m) → l.length ≤ m.length
  | [], _, _, _ => Nat.zero_le _
  | a :: l, m, hn, h => by
    have ha := h a List.mem_cons_self
    have := nodup_len (l := l) (m := m.erase a) (List.nodup_cons.mp hn).2 fun x hx => by
      have hne : x ≠ a := fun e => (List.nodup_cons.mp hn).1 (e ▸ hx)
      exact (List.mem_erase_of_ne hne).mpr (h x (List.mem_cons_of_mem _ hx))
    rw [List.length_erase_of_mem ha] at this
    have hpos : 0 < m.length := List.length_pos_of_mem ha
    rw [List.length_cons]
    omega

/-! ### worlds as the program has them -/
/-- the records, the places of those that have not arrived, the places of those that took effect -/
abbrev Wd := List (Nat × Nat) × List Nat × List Nat
/-- into an ascending list -/
def ins (i : Nat) : List Nat → List Nat
  | [] => [i]
  | x :: r => if i ≤ x then i :: x :: r else x :: ins i r
def arr (l : List Entry) (w : Wd) (i : Nat) : Wd :=
  if (batchAt l i).holds w.1 = true then ((batchAt l i).apply w.1, w.2.1.filter (fun j => j != i), ins i w.2.2) else (w.1, w.2.1.filter (fun j => j != i), w.2.2)
def doneOf (l : List Entry) (d : List Nat) : List Nat := (lostPlaces l).filter fun i => d.contains i
def ab (l : List Entry) (s : Scene) : Wd := (s.state, s.alive, doneOf l s.done)
structure Good (l : List Entry) (k : Nat) (s : Scene) : Prop where
  nd : s.alive.Nodup
  lost : ∀ i ∈ s.alive, i ∈ lostPlaces l
  lt : ∀ i ∈ s.alive, i < k
  dn : ∀ i ∈ s.done, i < k
  apart : ∀ i ∈ s.alive, i ∉ s.done

theorem lostPlaces_sorted (l : List Entry) : (lostPlaces l).Pairwise (· < ·) := List.pairwise_lt_range.filter _
theorem doneOf_sorted (l : List Entry) (d : List Nat) : (doneOf l d).Pairwise (· < ·) := (lostPlaces_sorted l).filter _
theorem mem_doneOf {l : List Entry} {d : List Nat} {i : Nat} : i ∈ doneOf l d ↔ i ∈ lostPlaces l ∧ i ∈ d := by
  unfold doneOf
  rw [List.mem_filter, List.contains_iff_mem]
theorem mem_ins {i x : Nat} : ∀ {l : List Nat}, x ∈ ins i l ↔ x = i ∨ x ∈ l
  | [] => by simp [ins]
  | y :: r => by
    unfold ins
    split
    · simp
    · rw [List.mem_cons, mem_ins, List.mem_cons]
      constructor <;> (rintro (h | h | h) <;> simp [h])
theorem ins_sorted {i : Nat} : ∀ {l : List Nat}, l.Pairwise (· < ·) → i ∉ l → (ins i l).Pairwise (· < ·)
  | [], _, _ => by simp [ins]
  | y :: r, h, hi => by
    unfold ins
    have h' := List.pairwise_cons.mp h
    have hy : i ≠ y := fun e => hi (e ▸ List.mem_cons_self)
    split
    · rename_i hle
      refine List.pairwise_cons.mpr ⟨fun x hx => ?_, h⟩
      rcases List.mem_cons.mp hx with rfl | hx
      · omega
      · have := h'.1 x hx
        omega
    · rename_i hle
      refine List.pairwise_cons.mpr ⟨fun x hx => ?_, ins_sorted h'.2 fun z => hi (List.mem_cons_of_mem _ z)⟩
      rcases mem_ins.mp hx with rfl | hx
      · omega
      · exact h'.1 x hx
theorem doneOf_cons {l : List Entry} {d : List Nat} {i : Nat} (hl : i ∈ lostPlaces l) (hd : i ∉ d) : doneOf l (i :: d) = ins i (doneOf l d) := by
  refine ascending_ext (doneOf_sorted _ _) (ins_sorted (doneOf_sorted _ _) fun h => hd (mem_doneOf.mp h).2) fun x => ?_
  rw [mem_doneOf, mem_ins, mem_doneOf, List.mem_cons]
  constructor
  · rintro ⟨h1, h2 | h2⟩
    · exact .inl h2
    · exact .inr ⟨h1, h2⟩
  · rintro (rfl | ⟨h1, h2⟩)
    · exact ⟨hl, .inl rfl⟩
    · exact ⟨h1, .inr h2⟩
theorem doneOf_skip {l : List Entry} {d : List Nat} {i : Nat} (hl : i ∉ lostPlaces l) : doneOf l (i :: d) = doneOf l d := by
  refine ascending_ext (doneOf_sorted _ _) (doneOf_sorted _ _) fun x => ?_
  rw [mem_doneOf, mem_doneOf, List.mem_cons]
  constructor
  · rintro ⟨h1, h2 | h2⟩
    · exact absurd (h2 ▸ h1) hl
    · exact ⟨h1, h2⟩
  · rintro ⟨h1, h2⟩
    exact ⟨h1, .inr h2⟩

theorem arriveIn_alive (l : List Entry) (s : Scene) (i : Nat) : (arriveIn l s i).alive = s.alive.filter fun j => j != i := rfl
theorem arriveIn_done (l : List Entry) (s : Scene) (i : Nat) : (arriveIn l s i).done = if (batchAt l i).holds s.state then i :: s.done else s.done := rfl
theorem Good.arrive {l : List Entry} {k : Nat} {s : Scene} (g : Good l k s) {i : Nat} (hi : i ∈ s.alive) : Good l k (arriveIn l s i) where
  nd := g.nd.filter _
  lost := fun j hj => g.lost j (List.mem_filter.mp hj).1
  lt := fun j hj => g.lt j (List.mem_filter.mp hj).1
  dn := fun j hj => by
    rw [arriveIn_done] at hj
    split at hj
    · rcases List.mem_cons.mp hj with rfl | hj
      · exact g.lt _ hi
      · exact g.dn j hj
    · exact g.dn j hj
  apart := fun j hj => by
    rw [arriveIn_alive] at hj
    obtain ⟨h1, h2⟩ := List.mem_filter.mp hj
    have hne : j ≠ i := by simpa using h2
    rw [arriveIn_done]
    split
    · intro z
      rcases List.mem_cons.mp z with e | z
      · exact hne e
      · exact g.apart j h1 z
    · exact g.apart j h1
theorem ab_arrive {l : List Entry} {k : Nat} {s : Scene} (g : Good l k s) {i : Nat} (hi : i ∈ s.alive) : ab l (arriveIn l s i) = arr l (ab l s) i := by
  unfold ab arr arriveIn Batch.arrive
  by_cases h : (batchAt l i).holds s.state = true
  · simp only [h, if_true]
    rw [doneOf_cons (g.lost i hi) (g.apart i hi)]
  · simp only [h]
    rfl

/-! ### arrivals -/
inductive ReS (l : List Entry) : Scene → Scene → Prop
  | refl (s : Scene) : ReS l s s
  | step {s t : Scene} (i : Nat) : i ∈ s.alive → ReS l (arriveIn l s i) t → ReS l s t
inductive ReP (l : List Entry) : Wd → Wd → Prop
  | refl (w : Wd) : ReP l w w
  | step {w x : Wd} (i : Nat) : i ∈ w.2.1 → ReP l (arr l w i) x → ReP l w x
theorem ReP.snoc {l : List Entry} {w x : Wd} {i : Nat} (h : ReP l w x) (hi : i ∈ x.2.1) : ReP l w (arr l x i) := by
  induction h with
  | refl => exact .step i hi (.refl _)
  | step j hj _ ih => exact .step j hj (ih hi)
theorem ReS.good {l : List Entry} {k : Nat} {s t : Scene} (h : ReS l s t) (g : Good l k s) : Good l k t := by
  induction h with
  | refl => exact g
  | step i hi _ ih => exact ih (g.arrive hi)
theorem ReS.abs {l : List Entry} {k : Nat} {s t : Scene} (h : ReS l s t) (g : Good l k s) : ReP l (ab l s) (ab l t) := by
  induction h with
  | refl => exact .refl _
  | step i hi _ ih =>
    refine .step i hi ?_
    rw [← ab_arrive g hi]
    exact ih (g.arrive hi)
theorem ReP.back {l : List Entry} {k : Nat} {w x : Wd} (h : ReP l w x) : ∀ s : Scene, Good l k s → ab l s = w → ∃ t, ReS l s t ∧ ab l t = x := by
  induction h with
  | refl w => exact fun s _ e => ⟨s, .refl s, e⟩
  | step i hi _ ih =>
    intro s g e
    subst e
    obtain ⟨t, h1, h2⟩ := ih (arriveIn l s i) (g.arrive hi) (ab_arrive g hi)
    exact ⟨t, .step i hi h1, h2⟩
theorem filter_lt {i : Nat} : ∀ {a : List Nat}, i ∈ a → (a.filter fun j => j != i).length < a.length
  | x :: r, h => by
    by_cases e : x = i
    · subst e
      have : (r.filter fun j => j != x).length ≤ r.length := List.length_filter_le _ _
      simp [List.filter_cons]
      omega
    · have hr : i ∈ r := by
        rcases List.mem_cons.mp h with z | z
        · exact absurd z.symm e
        · exact z
      have := filter_lt hr
      have e2 : (x != i) = true := by simpa using e
      rw [List.filter_cons, e2, if_pos rfl, List.length_cons, List.length_cons]
      omega
theorem mem_drift {l : List Entry} : ∀ (f : Nat) (s t : Scene), s.alive.length ≤ f → (t ∈ drift l f s ↔ ReS l s t)
  | 0, s, t, h => by
    have ha : s.alive = [] := List.eq_nil_of_length_eq_zero (Nat.le_zero.mp h)
    rw [drift, List.mem_singleton]
    constructor
    · rintro rfl; exact .refl _
    · intro h
      cases h with
      | refl => rfl
      | step i hi _ => rw [ha] at hi; cases hi
  | f + 1, s, t, h => by
    rw [drift, List.mem_cons, List.mem_flatMap]
    constructor
    · rintro (rfl | ⟨i, hi, ht⟩)
      · exact .refl _
      · refine .step i hi ((mem_drift f _ t ?_).mp ht)
        have := filter_lt hi
        rw [arriveIn_alive]
        omega
    · intro hr
      cases hr with
      | refl => exact .inl rfl
      | step i hi hr =>
        refine .inr ⟨i, hi, (mem_drift f _ t ?_).mpr hr⟩
        have := filter_lt hi
        rw [arriveIn_alive]
        omega
theorem mem_drifted {l : List Entry} {s t : Scene} : t ∈ drifted l s ↔ ReS l s t := mem_drift _ _ _ (Nat.le_refl _)

/-! ### entry by entry -/
/-- the program's worlds are those of the scenes -/
structure Rel (l : List Entry) (k : Nat) (ws : List Wd) (ss : List Scene) : Prop where
  mem : ∀ x, x ∈ ws ↔ ∃ s ∈ ss, ab l s = x
  good : ∀ s ∈ ss, Good l k s
/-- all that comes of worlds by arrivals, each once -/
structure Closed (l : List Entry) (ws order : List Wd) : Prop where
  nd : order.Nodup
  mem : ∀ x, x ∈ order ↔ ∃ w ∈ ws, ReP l w x
theorem Closed.rel {l : List Entry} {k : Nat} {ws order : List Wd} {ss : List Scene} (c : Closed l ws order) (r : Rel l k ws ss) : Rel l k order (ss.flatMap (drifted l)) where
  mem := fun x => by
    rw [c.mem]
    constructor
    · rintro ⟨w, hw, h⟩
      obtain ⟨s, hs, e⟩ := (r.mem w).mp hw
      obtain ⟨t, h1, h2⟩ := h.back s (r.good s hs) e
      exact ⟨t, List.mem_flatMap.mpr ⟨s, hs, mem_drifted.mpr h1⟩, h2⟩
    · rintro ⟨t, ht, rfl⟩
      obtain ⟨s, hs, h⟩ := List.mem_flatMap.mp ht
      exact ⟨ab l s, (r.mem _).mpr ⟨s, hs, rfl⟩, (mem_drifted.mp h).abs (r.good s hs)⟩
  good := fun t ht => by
    obtain ⟨s, hs, h⟩ := List.mem_flatMap.mp ht
    exact (mem_drifted.mp h).good (r.good s hs)

/-- what an entry makes of the program's worlds -/
def behindW (i : Nat) (ws : List Wd) : Entry → List Wd
  | .lost _ => ws.map fun w => (w.1, w.2.1 ++ [i], w.2.2)
  | .answered b e => (ws.filter fun w => b.holds w.1 == e).map fun w => (if e then b.apply w.1 else w.1, w.2.1, w.2.2)
  | .read k r => ws.filter fun w => recordOf w.1 k == r
theorem mem_lostPlaces {l : List Entry} {i : Nat} : i ∈ lostPlaces l ↔ ∃ b, l[i]? = some (.lost b) := by
  unfold lostPlaces
  rw [List.mem_filter, List.mem_range]
  constructor
  · rintro ⟨h1, h2⟩
    split at h2
    · rename_i b hb; exact ⟨b, hb⟩
    · cases h2
  · rintro ⟨b, hb⟩
    refine ⟨(List.getElem?_eq_some_iff.mp hb).1, ?_⟩
    rw [hb]
theorem behind_rel {l : List Entry} {i : Nat} {ws : List Wd} {ss : List Scene} {e : Entry} (hi : l[i]? = some e) (r : Rel l i ws ss) : Rel l (i + 1) (behindW i ws e) (ss.filterMap fun v => entered i v e) := by
  cases e with
  | lost b =>
    refine ⟨fun x => ?_, fun s hs => ?_⟩
    · show x ∈ ws.map _ ↔ _
      rw [List.mem_map]
      constructor
      · rintro ⟨w, hw, rfl⟩
        obtain ⟨s, hs, rfl⟩ := (r.mem w).mp hw
        exact ⟨_, List.mem_filterMap.mpr ⟨s, hs, rfl⟩, rfl⟩
      · rintro ⟨t, ht, rfl⟩
        obtain ⟨s, hs, e⟩ := List.mem_filterMap.mp ht
        cases e
        exact ⟨ab l s, (r.mem _).mpr ⟨s, hs, rfl⟩, rfl⟩
    · obtain ⟨v, hv, e⟩ := List.mem_filterMap.mp hs
      cases e
      have g := r.good v hv
      have nv : i ∉ v.alive := fun z => Nat.lt_irrefl _ (g.lt i z)
      refine ⟨?_, fun j hj => ?_, fun j hj => ?_, fun j hj => Nat.lt_succ_of_lt (g.dn j hj), fun j hj => ?_⟩
      · show (v.alive ++ [i]).Nodup
        rw [List.nodup_append]
        refine ⟨g.nd, by simp, fun a ha b hb => ?_⟩
        have : b = i := by simpa using hb
        subst this
        exact fun e => nv (e ▸ ha)
      · rcases List.mem_append.mp hj with h | h
        · exact g.lost j h
        · have : j = i := by simpa using h
          subst this
          exact mem_lostPlaces.mpr ⟨b, hi⟩
      · rcases List.mem_append.mp hj with h | h
        · exact Nat.lt_succ_of_lt (g.lt j h)
        · have : j = i := by simpa using h
          omega
      · rcases List.mem_append.mp hj with h | h
        · exact g.apart j h
        · have : j = i := by simpa using h
          subst this
          exact fun z => Nat.lt_irrefl _ (g.dn _ z)
  | answered b ef =>
    have nl : i ∉ lostPlaces l := fun z => by
      obtain ⟨b', hb⟩ := mem_lostPlaces.mp z
      rw [hi] at hb; cases hb
    have dn : ∀ d : List Nat, doneOf l (if ef then i :: d else d) = doneOf l d := fun d => by
      cases ef with
      | true => exact doneOf_skip nl
      | false => rfl
    have st : ∀ s : Scene, b.holds s.state = ef → b.arrive s.state = if ef then b.apply s.state else s.state := fun s h => by
      unfold Batch.arrive
      rw [h]
    refine ⟨fun x => ?_, fun s hs => ?_⟩
    · show x ∈ (ws.filter _).map _ ↔ _
      rw [List.mem_map]
      constructor
      · rintro ⟨w, hw, rfl⟩
        obtain ⟨hw, hh⟩ := List.mem_filter.mp hw
        obtain ⟨s, hs, rfl⟩ := (r.mem w).mp hw
        have hh : b.holds s.state = ef := eq_of_beq (show (b.holds s.state == ef) = true from hh)
        refine ⟨_, List.mem_filterMap.mpr ⟨s, hs, by rw [entered, if_pos (by simp [hh])]⟩, ?_⟩
        show (b.arrive s.state, s.alive, doneOf l (if ef then i :: s.done else s.done)) = _
        rw [dn, st s hh]
        rfl
      · rintro ⟨t, ht, rfl⟩
        obtain ⟨s, hs, e⟩ := List.mem_filterMap.mp ht
        rw [entered] at e
        split at e
        · rename_i hh
          have hh : b.holds s.state = ef := by simpa using hh
          cases e
          refine ⟨ab l s, List.mem_filter.mpr ⟨(r.mem _).mpr ⟨s, hs, rfl⟩, by show (b.holds s.state == ef) = true; rw [hh]; simp⟩, ?_⟩
          show _ = (b.arrive s.state, s.alive, doneOf l (if ef then i :: s.done else s.done))
          rw [dn, st s hh]
          rfl
        · cases e
    · obtain ⟨v, hv, e⟩ := List.mem_filterMap.mp hs
      rw [entered] at e
      split at e
      · cases e
        have g := r.good v hv
        refine ⟨g.nd, g.lost, fun j hj => Nat.lt_succ_of_lt (g.lt j hj), fun j hj => ?_, fun j hj => ?_⟩
        · have hj : j ∈ (if ef then i :: v.done else v.done) := hj
          split at hj
          · rcases List.mem_cons.mp hj with rfl | hj
            · exact Nat.lt_succ_self _
            · exact Nat.lt_succ_of_lt (g.dn j hj)
          · exact Nat.lt_succ_of_lt (g.dn j hj)
        · show j ∉ (if ef then i :: v.done else v.done)
          split
          · intro z
            rcases List.mem_cons.mp z with rfl | z
            · exact Nat.lt_irrefl _ (g.lt _ hj)
            · exact g.apart j hj z
          · exact g.apart j hj
      · cases e
  | read k q =>
    refine ⟨fun x => ?_, fun s hs => ?_⟩
    · show x ∈ ws.filter _ ↔ _
      rw [List.mem_filter]
      constructor
      · rintro ⟨hw, hh⟩
        obtain ⟨s, hs, rfl⟩ := (r.mem x).mp hw
        have hh : (recordOf s.state k == q) = true := hh
        exact ⟨s, List.mem_filterMap.mpr ⟨s, hs, by rw [entered, if_pos hh]⟩, rfl⟩
      · rintro ⟨t, ht, rfl⟩
        obtain ⟨s, hs, e⟩ := List.mem_filterMap.mp ht
        rw [entered] at e
        split at e
        · rename_i hh
          cases e
          exact ⟨(r.mem _).mpr ⟨_, hs, rfl⟩, hh⟩
        · cases e
    · obtain ⟨v, hv, e⟩ := List.mem_filterMap.mp hs
      rw [entered] at e
      split at e
      · cases e
        have g := r.good _ hv
        exact ⟨g.nd, g.lost, fun j hj => Nat.lt_succ_of_lt (g.lt j hj), fun j hj => Nat.lt_succ_of_lt (g.dn j hj), g.apart⟩
      · cases e

/-- the scenes behind so many entries -/
def stage (n : Nat) (l : List Entry) : Nat → List Scene
  | 0 => [R7289g.Spec.start n]
  | i + 1 => match l[i]? with
    | some e => (stage n l i).flatMap fun w => (drifted l w).filterMap fun v => entered i v e
    | none => stage n l i
theorem stage_succ {n : Nat} {l : List Entry} {i : Nat} {e : Entry} (h : l[i]? = some e) : stage n l (i + 1) = (stage n l i).flatMap fun w => (drifted l w).filterMap fun v => entered i v e := by
  rw [stage, h]
theorem filterMap_flatMap' {α β γ : Type} (f : α → List β) (g : β → Option γ) : ∀ l : List α, (l.flatMap f).filterMap g = l.flatMap fun a => (f a).filterMap g
  | [] => rfl
  | a :: l => by rw [List.flatMap_cons, List.filterMap_append, filterMap_flatMap' f g l, List.flatMap_cons]
theorem stage_rel {n : Nat} {l : List Entry} {i : Nat} {e : Entry} {ws order : List Wd} (h : l[i]? = some e) (r : Rel l i ws (stage n l i)) (c : Closed l ws order) : Rel l (i + 1) (behindW i order e) (stage n l (i + 1)) := by
  rw [stage_succ h, ← filterMap_flatMap']
  exact behind_rel h (c.rel r)
theorem after_stage {n : Nat} {l : List Entry} : ∀ (k i : Nat), i + k = l.length → afterAll l i (l.drop i) (stage n l i) = stage n l l.length
  | 0, i, h => by
    have e : i = l.length := by omega
    subst e
    rw [List.drop_length, afterAll]
  | k + 1, i, h => by
    have hi : i < l.length := by omega
    rw [List.drop_eq_getElem_cons hi, afterAll, ← stage_succ (n := n) (List.getElem?_eq_getElem hi)]
    exact after_stage k (i + 1) (by omega)
theorem worlds_stage (n : Nat) (l : List Entry) : worlds n l = (stage n l l.length).flatMap (drifted l) := by
  unfold worlds
  rw [← after_stage (n := n) l.length 0 (by omega)]
  rfl
theorem stage_zero (n : Nat) (l : List Entry) : Rel l 0 [(List.replicate n (0, 0), [], [])] (stage n l 0) where
  mem := fun x => by
    show x ∈ [_] ↔ ∃ s ∈ [R7289g.Spec.start n], _
    rw [List.mem_singleton]
    constructor
    · rintro rfl
      refine ⟨_, List.mem_singleton.mpr rfl, ?_⟩
      show (List.replicate n (0, 0), [], doneOf l []) = _
      have : doneOf l [] = [] := List.eq_nil_iff_forall_not_mem.mpr fun i hi => by
        have := (mem_doneOf.mp hi).2
        cases this
      rw [this]
    · rintro ⟨s, hs, rfl⟩
      have := List.mem_singleton.mp hs
      subst this
      show (List.replicate n (0, 0), [], doneOf l []) = _
      have : doneOf l [] = [] := List.eq_nil_iff_forall_not_mem.mpr fun i hi => by
        have := (mem_doneOf.mp hi).2
        cases this
      rw [this]
  good := fun s hs => by
    have := List.mem_singleton.mp hs
    subst this
    exact ⟨by show ([] : List Nat).Nodup; simp, fun i hi => (by cases hi), fun i hi => (by cases hi), fun i hi => (by cases hi), fun i hi => (by cases hi)⟩

/-! ### how many worlds there are -/
def TT (g : Nat → Nat) : Nat → Nat
  | 0 => g 0
  | k + 1 => g (k + 1) + (k + 1) * TT g k
def FF : Nat → Nat → Nat
  | 0 => TT fun _ => 1
  | r + 1 => TT (FF r)
theorem TT_ge (g : Nat → Nat) : ∀ k, g k ≤ TT g k
  | 0 => Nat.le_refl _
  | k + 1 => Nat.le_add_right _ _
theorem TT_mono {g g' : Nat → Nat} (h : ∀ k, g k ≤ g' k) : ∀ k, TT g k ≤ TT g' k
  | 0 => h 0
  | k + 1 => Nat.add_le_add (h _) (Nat.mul_le_mul_left _ (TT_mono h k))
theorem TT_shift (g : Nat → Nat) (m : Nat) : ∀ a, TT (fun j => g (j + m)) a ≤ TT g (a + m)
  | 0 => by
    show g (0 + m) ≤ _
    rw [Nat.zero_add]
    exact TT_ge g m
  | a + 1 => by
    have e : a + 1 + m = (a + m) + 1 := by omega
    rw [e]
    show g (a + 1 + m) + (a + 1) * TT (fun j => g (j + m)) a ≤ g (a + m + 1) + (a + m + 1) * TT g (a + m)
    rw [e]
    exact Nat.add_le_add_left (Nat.mul_le_mul (by omega) (TT_shift g m a)) _
theorem FF_pos : ∀ r k, 1 ≤ FF r k
  | 0, k => TT_ge (fun _ => 1) k
  | r + 1, k => Nat.le_trans (FF_pos r k) (TT_ge _ _)
theorem FF_ge (r : Nat) (k : Nat) : TT (fun _ => 1) k ≤ FF r k := by
  cases r with
  | zero => exact Nat.le_refl _
  | succ r => exact TT_mono (fun j => FF_pos r j) k
theorem sum_flatMap {α β : Type} (f : α → List β) (g : β → Nat) : ∀ l : List α, ((l.flatMap f).map g).sum = (l.map fun a => ((f a).map g).sum).sum
  | [] => rfl
  | a :: l => by rw [List.flatMap_cons, List.map_append, List.sum_append, sum_flatMap f g l, List.map_cons, List.sum_cons]
theorem sum_le {α : Type} {f g : α → Nat} : ∀ {l : List α}, (∀ a ∈ l, f a ≤ g a) → (l.map f).sum ≤ (l.map g).sum
  | [], _ => Nat.le_refl _
  | a :: l, h => by
    rw [List.map_cons, List.map_cons, List.sum_cons, List.sum_cons]
    exact Nat.add_le_add (h a List.mem_cons_self) (sum_le fun b hb => h b (List.mem_cons_of_mem _ hb))
theorem sum_const {α : Type} {f : α → Nat} {c : Nat} : ∀ {l : List α}, (∀ a ∈ l, f a = c) → (l.map f).sum = l.length * c
  | [], _ => by simp
  | a :: l, h => by
    rw [List.map_cons, List.sum_cons, h a List.mem_cons_self, sum_const fun b hb => h b (List.mem_cons_of_mem _ hb), List.length_cons, Nat.succ_mul, Nat.add_comm]
theorem filter_one {i : Nat} : ∀ {a : List Nat}, a.Nodup → i ∈ a → (a.filter fun j => j != i).length = a.length - 1
  | x :: r, hn, h => by
    obtain ⟨h1, h2⟩ := List.nodup_cons.mp hn
    by_cases e : x = i
    · subst e
      have : r.filter (fun j => j != x) = r := List.filter_eq_self.mpr fun j hj => by
        have : j ≠ x := fun e => h1 (e ▸ hj)
        simpa using this
      simp [List.filter_cons, this]
    · have hr : i ∈ r := by
        rcases List.mem_cons.mp h with z | z
        · exact absurd z.symm e
        · exact z
      have := filter_one h2 hr
      have hp : 0 < r.length := List.length_pos_of_mem hr
      simp [List.filter_cons, e, this]
      omega
theorem drift_sum {l : List Entry} (g : Nat → Nat) : ∀ (k f : Nat) (s : Scene), s.alive.Nodup → s.alive.length = k → k ≤ f → ((drift l f s).map fun v => g v.alive.length).sum = TT g k
  | 0, f, s, _, hk, _ => by
    have ha : s.alive = [] := List.eq_nil_of_length_eq_zero hk
    cases f with
    | zero => simp [drift, TT, hk]
    | succ f => simp [drift, TT, ha]
  | k + 1, 0, s, _, _, hf => absurd hf (by omega)
  | k + 1, f + 1, s, hn, hk, hf => by
    rw [drift, List.map_cons, List.sum_cons, sum_flatMap, hk]
    show _ = g (k + 1) + (k + 1) * TT g k
    congr 1
    rw [sum_const (c := TT g k) fun i hi => ?_, hk]
    have hl : (arriveIn l s i).alive.length = k := by
      rw [arriveIn_alive, filter_one hn hi, hk]
      omega
    exact drift_sum g k f _ (hn.filter _) hl (by omega)
theorem drifted_sum {l : List Entry} (g : Nat → Nat) {s : Scene} (hn : s.alive.Nodup) : ((drifted l s).map fun v => g v.alive.length).sum = TT g s.alive.length := drift_sum g _ _ s hn rfl (Nat.le_refl _)
def isLost : Entry → Bool
  | .lost _ => true
  | _ => false
def lostIn (l : List Entry) : Nat := (l.filter isLost).length
theorem sum_filterMap_le {α β : Type} {f : α → Option β} {g : β → Nat} {h : α → Nat} : ∀ {l : List α}, (∀ a ∈ l, ∀ b, f a = some b → g b ≤ h a) → ((l.filterMap f).map g).sum ≤ (l.map h).sum
  | [], _ => Nat.le_refl _
  | a :: l, hh => by
    have ih := sum_filterMap_le (l := l) fun b hb => hh b (List.mem_cons_of_mem _ hb)
    rw [List.filterMap_cons, List.map_cons, List.sum_cons]
    split
    · omega
    · rename_i b hb
      rw [List.map_cons, List.sum_cons]
      exact Nat.add_le_add (hh a List.mem_cons_self b hb) ih
/-- the weight of the scenes behind so many entries -/
def wgt (l : List Entry) (i : Nat) (ss : List Scene) : Nat := (ss.map fun s => FF (l.length - i) (s.alive.length + lostIn (l.drop i))).sum
theorem stage_good {n : Nat} {l : List Entry} : ∀ i, i ≤ l.length → ∀ s ∈ stage n l i, Good l i s
  | 0, _ => (stage_zero n l).good
  | i + 1, h => by
    have hi : i < l.length := by omega
    rw [stage_succ (List.getElem?_eq_getElem hi)]
    intro s hs
    obtain ⟨w, hw, hs⟩ := List.mem_flatMap.mp hs
    obtain ⟨v, hv, e⟩ := List.mem_filterMap.mp hs
    have g := (mem_drifted.mp hv).good (stage_good i (by omega) w hw)
    have r : Rel l i [ab l v] [v] := ⟨fun x => by simp [eq_comm], fun s hs => by rw [List.mem_singleton.mp hs]; exact g⟩
    refine (behind_rel (List.getElem?_eq_getElem hi) r).good s ?_
    exact List.mem_filterMap.mpr ⟨v, List.mem_singleton.mpr rfl, e⟩
theorem wgt_step {n : Nat} {l : List Entry} {i : Nat} (hi : i < l.length) : wgt l (i + 1) (stage n l (i + 1)) ≤ wgt l i (stage n l i) := by
  have he := List.getElem?_eq_getElem hi
  unfold wgt
  rw [stage_succ he, sum_flatMap]
  refine sum_le fun s hs => ?_
  have g := stage_good i (Nat.le_of_lt hi) s hs
  have hr : l.length - i = (l.length - (i + 1)) + 1 := by omega
  rw [hr]
  refine Nat.le_trans (sum_filterMap_le (h := fun v => FF (l.length - (i + 1)) (v.alive.length + lostIn (l.drop i))) fun v hv t ht => ?_) ?_
  · rw [List.drop_eq_getElem_cons hi]
    generalize l[i] = e at ht ⊢
    cases e with
    | lost b =>
      cases ht
      show FF _ ((v.alive ++ [i]).length + _) ≤ FF _ (_ + lostIn (Entry.lost b :: _))
      have e1 : lostIn (Entry.lost b :: l.drop (i + 1)) = lostIn (l.drop (i + 1)) + 1 := by simp [lostIn, isLost, List.filter_cons]
      rw [e1, List.length_append, List.length_singleton, Nat.add_assoc, Nat.add_comm 1]
      exact Nat.le_refl _
    | answered b ef =>
      rw [entered] at ht
      split at ht
      · cases ht
        exact Nat.le_refl _
      · cases ht
    | read k q =>
      rw [entered] at ht
      split at ht
      · cases ht
        exact Nat.le_refl _
      · cases ht
  · rw [drifted_sum (fun a => FF (l.length - (i + 1)) (a + lostIn (l.drop i))) g.nd]
    exact TT_shift (FF (l.length - (i + 1))) _ _
theorem wgt_all {n : Nat} {l : List Entry} : ∀ i, i ≤ l.length → wgt l i (stage n l i) ≤ FF l.length (lostIn l)
  | 0, _ => by
    show ((stage n l 0).map _).sum ≤ _
    show (([R7289g.Spec.start n]).map _).sum ≤ _
    simp [R7289g.Spec.start]
  | i + 1, h => Nat.le_trans (wgt_step h) (wgt_all i (by omega))
theorem FF_small : ∀ n, n ≤ 8 → ∀ k, k ≤ 5 → FF n k ≤ 300000 := by
  have h : (List.range 9).all (fun n => (List.range 6).all fun k => decide (FF n k ≤ 300000)) = true := by decide +kernel
  intro n hn k hk
  have h1 := List.all_eq_true.mp h n (List.mem_range.mpr (by omega))
  have h2 := List.all_eq_true.mp h1 k (List.mem_range.mpr (by omega))
  exact of_decide_eq_true h2
theorem TT1_mono : ∀ {a b : Nat}, a ≤ b → TT (fun _ => 1) a ≤ TT (fun _ => 1) b := fun {a b} h => by
  have := TT_shift (fun _ => 1) (b - a) a
  rw [Nat.add_sub_cancel' h] at this
  exact this
theorem stage_len {n : Nat} {l : List Entry} (h8 : l.length ≤ 8) (h5 : lostIn l ≤ 5) {i : Nat} (hi : i ≤ l.length) : ((stage n l i).flatMap (drifted l)).length ≤ 300000 := by
  refine Nat.le_trans ?_ (Nat.le_trans (wgt_all (n := n) i hi) (FF_small _ h8 _ h5))
  unfold wgt
  have one : ∀ xs : List Scene, xs.length = (xs.map fun _ => 1).sum := fun xs => by
    induction xs with
    | nil => rfl
    | cons a xs ih => rw [List.length_cons, List.map_cons, List.sum_cons, ih, Nat.add_comm]
  rw [one, sum_flatMap]
  refine sum_le fun s hs => ?_
  have g := stage_good i hi s hs
  rw [drifted_sum (fun _ => 1) g.nd]
  exact Nat.le_trans (TT1_mono (Nat.le_add_right _ _)) (FF_ge _ _)
theorem order_len {n : Nat} {l : List Entry} (h8 : l.length ≤ 8) (h5 : lostIn l ≤ 5) {i : Nat} (hi : i ≤ l.length) {ws xs : List Wd} (r : Rel l i ws (stage n l i)) (hn : xs.Nodup) (hx : ∀ x ∈ xs, ∃ w ∈ ws, ReP l w x) : xs.length ≤ 300000 := by
  refine Nat.le_trans (nodup_len (m := ((stage n l i).flatMap (drifted l)).map (ab l)) hn fun x h => ?_) (by rw [List.length_map]; exact stage_len h8 h5 hi)
  obtain ⟨w, hw, hr⟩ := hx x h
  obtain ⟨s, hs, e⟩ := (r.mem w).mp hw
  obtain ⟨t, h1, h2⟩ := hr.back s (r.good s hs) e
  exact List.mem_map.mpr ⟨t, List.mem_flatMap.mpr ⟨s, hs, mem_drifted.mpr h1⟩, h2⟩
theorem lostIn_places : ∀ l : List Entry, (lostPlaces l).length = lostIn l := by
  have key : ∀ (l : List Entry) (k : Nat), ((List.range' k l.length).filter fun i => match l[i - k]? with | some (.lost _) => true | _ => false).length = lostIn l := by
    intro l
    induction l with
    | nil => intro k; rfl
    | cons e l ih =>
      intro k
      rw [List.length_cons, List.range'_succ, List.filter_cons]
      have h := ih (k + 1)
      have e2 : (List.range' (k + 1) l.length).filter (fun i => match (e :: l)[i - k]? with | some (.lost _) => true | _ => false) = (List.range' (k + 1) l.length).filter (fun i => match l[i - (k + 1)]? with | some (.lost _) => true | _ => false) := by
        apply List.filter_congr
        intro i hi
        have := List.mem_range'_1.mp hi
        have e3 : i - k = (i - (k + 1)) + 1 := by omega
        rw [e3, List.getElem?_cons_succ]
      rw [e2]
      cases e with
      | lost b => simpa [lostIn, isLost, List.filter_cons] using h
      | answered b x => simpa [lostIn, isLost, List.filter_cons] using h
      | read a b => simpa [lostIn, isLost, List.filter_cons] using h
  intro l
  have := key l 0
  unfold lostPlaces
  rw [List.range_eq_range', ← this]
  rfl
end Zw
end
section
set_option maxRecDepth 100000
set_option maxHeartbeats 2000000
/-! Rules over the layer: dicts whose keys are nested tuples of whole numbers and whose values are True. -/
namespace Zr
open PySem PySem.Spec PyProof.Rows L2

/-! ### keys as they stand in the tracked heap -/
mutual
inductive NK (H : Hp) : NestedKey → V → Prop
  | num (i : Int) : NK H (.num i) (.int i)
  | tup {a : Addr} {vs : List V} {ks : List NestedKey} : H a = some (.tup vs) → NKs H ks vs → NK H (.tup ks) (.ref a)
inductive NKs (H : Hp) : List NestedKey → List V → Prop
  | nil : NKs H [] []
  | cons {k : NestedKey} {v : V} {ks : List NestedKey} {vs : List V} : NK H k v → NKs H ks vs → NKs H (k :: ks) (v :: vs)
end
mutual
theorem NK.keep {H H' : Hp} (ht : ∀ b xs, H b = some (.tup xs) → H' b = some (.tup xs)) : ∀ (k : NestedKey) (v : V), NK H k v → NK H' k v
  | .num i, _, h => by cases h; exact .num i
  | .tup ks, _, h => by
    cases h with
    | tup ha hs => exact .tup (ht _ _ ha) (NKs.keep ht ks _ hs)
  | .none, _, h => by cases h
  | .text _, _, h => by cases h
theorem NKs.keep {H H' : Hp} (ht : ∀ b xs, H b = some (.tup xs) → H' b = some (.tup xs)) : ∀ (ks : List NestedKey) (vs : List V), NKs H ks vs → NKs H' ks vs
  | [], _, h => by cases h; exact .nil
  | k :: ks, _, h => by
    cases h with
    | cons h1 h2 => exact .cons (NK.keep ht k _ h1) (NKs.keep ht ks _ h2)
end
mutual
theorem NK.is {P : Program} {w : World} {H : Hp} {h : Heap} (ok : HOk P w H h) : ∀ (k : NestedKey) (v : V) (u : Value), NK H k v → RelV v u → NestedIs h k u
  | .num i, _, _, n, r => by
    cases n
    obtain ⟨t, rfl⟩ := r
    exact .int i t
  | .tup ks, _, _, n, r => by
    cases n with
    | tup ha hs =>
      cases r
      obtain ⟨_, its, rv, o, h1, h2, n, h3⟩ := (show ObjOk P w H h _ (.tup _) from ok _ _ ha)
      exact .tup h1 h2 h3 (by simpa using NKs.is ok ks _ its hs rv)
  | .none, _, _, n, _ => by cases n
  | .text _, _, _, n, _ => by cases n
theorem NKs.is {P : Program} {w : World} {H : Hp} {h : Heap} (ok : HOk P w H h) : ∀ (ks : List NestedKey) (vs : List V) (us : List Value), NKs H ks vs → Vals vs us → NestedAll h ks us
  | [], _, _, n, r => by
    cases n
    cases r
    exact .nil
  | k :: ks, _, _, n, r => by
    cases n with
    | cons n1 n2 =>
      cases r with
      | cons r1 r2 => exact .cons (NK.is ok k _ _ n1 r1) (NKs.is ok ks _ _ n2 r2)
end

/-! ### the dict -/
abbrev Ent := NestedKey × Addr
def full (x : Ent) : NestedKey × Addr × Value := (x.1, x.2, .bool true)
def RawN (P : Program) (w : World) (a : Addr) (xs : List Ent) (h : Heap) : Prop :=
  xs.length ≤ sizeLine ∧ (a == sysModules) = false ∧ ∃ o es ep, h.get? a = some o ∧ o.ExactDict ∧ o.data = .dict es ep ∧ es.toList = (xs.map full).map (entryOfKey (nestedKind P w)) ∧ (xs.map (·.1)).Nodup
/-- at a: a dict with these keys (where they stand), each True -/
def dN (P : Program) (w : World) (a : Addr) (xs : List Ent) : HO := .ext (RawN P w a xs)
/-- the keys are where they are told -/
def EntOk (H : Hp) (xs : List Ent) : Prop := ∀ x ∈ xs, NK H x.1 (.ref x.2) ∧ x.1.depth ≤ 8

theorem dN_ok {P : Program} {w : World} {H : Hp} {h : Heap} {a : Addr} {xs : List Ent} (r : RawN P w a xs h) : ObjOk P w H h a (dN P w a xs) := by
  obtain ⟨z, sm, o, es, ep, ho, hx, hd, he, hn⟩ := r
  exact ⟨⟨z, sm, o, es, ep, ho, hx, hd, he, hn⟩, ⟨o, ho⟩, fun h1 h2 ⟨z, sm, o, es, ep, ho, hx, hd, he, hn⟩ k => ⟨z, sm, o, es, ep, k o ho, hx, hd, he, hn⟩⟩
theorem dN_at {P : Program} {w : World} {H : Hp} {h : Heap} {a : Addr} {xs : List Ent} (ok : HOk P w H h) (e : H a = some (dN P w a xs)) : RawN P w a xs h := by
  have x : ObjOk P w H h a (.ext (RawN P w a xs)) := ok a _ e
  exact x.1
theorem dN_tup {P : Program} {w : World} {a : Addr} {xs : List Ent} {ys : List V} : dN P w a xs ≠ .tup ys := fun z => by
  have z' : HO.ext _ = HO.tup ys := z
  cases z'
theorem keys_full (xs : List Ent) : (xs.map full).map (·.1) = xs.map (·.1) := by
  rw [List.map_map]; rfl
theorem dN_dictOf {P : Program} {w : World} {H : Hp} {h : Heap} {a : Addr} {xs : List Ent} (ok : HOk P w H h) (e : H a = some (dN P w a xs)) (en : EntOk H xs) : h.DictOfH (nestedKind P w) a (xs.map full) := by
  obtain ⟨z, sm, o, es, ep, ho, hx, hd, he, hn⟩ := dN_at ok e
  refine ⟨o, es, ep, ho, hx, hd, he, fun x hx => ?_, by rw [keys_full]; exact hn⟩
  obtain ⟨y, hy, rfl⟩ := List.mem_map.mp hx
  obtain ⟨n, d⟩ := en y hy
  exact ⟨NK.is ok _ _ _ n rfl, d⟩
theorem atKey_full (xs : List Ent) (k : NestedKey) : (atKey (xs.map full) k).isSome = decide (k ∈ xs.map (·.1)) := by
  induction xs with
  | nil => simp [atKey]
  | cons x xs ih =>
    unfold atKey at ih ⊢
    rw [List.map_cons, List.find?_cons]
    by_cases h : x.1 = k
    · have : decide ((full x).1 = k) = true := decide_eq_true h
      rw [this]
      simp [h]
    · have : decide ((full x).1 = k) = false := decide_eq_false h
      rw [this]
      have hk : ¬ k = x.1 := fun e => h e.symm
      simp only [List.map_cons, List.mem_cons, hk, false_or]
      exact ih

section
variable {X : Cx}
/-- {} -/
def tDNewN (P : Program) (w : World) : TE := fun _ H Q => ∀ p, H p = none → Q (.ref p) (upd H p (dN P w p []))
theorem pe_dnewN {pos : Pos} : PE X (.Dict [] [] pos) (tDNewN X.prog X.w) :=
  ⟨fun pins s σ H Q I h => wpAny_Dict_empty ⟨.ref s.heap.objs.size, _, I.laid (a := s.heap.objs.size) (o := dN X.prog X.w s.heap.objs.size []) (t' := s.toks) (fun _ _ q => Heap.get?_push_of_some _ q) (Nat.le_refl _)
    (dN_ok ⟨Nat.zero_le _, beq_eq_false_iff_ne.mpr (Nat.ne_of_gt I.big), _, #[], 0, Heap.get?_push_size _ rfl, ⟨rfl, rfl, rfl⟩, rfl, rfl, List.nodup_nil⟩), rfl, h _ (I.hok.fresh (Nat.le_refl _))⟩⟩
/-- k not in d -/
def rNotInN (P : Program) (w : World) : R2 := fun x y H Q => ∃ (k : NestedKey) (b a : Addr) (xs : List Ent), x = .ref b ∧ y = .ref a ∧ H a = some (dN P w a xs) ∧ EntOk H xs ∧ NK H k (.ref b) ∧ k.depth ≤ 8 ∧ Q (.bl (!decide (k ∈ xs.map (·.1)))) H
theorem op_notInN (hu : X.A.units + 64 < cLine) : OpR X (compareOp .NotIn) (rNotInN X.prog X.w) := by
  intro pins s σ H x y v u Q I rx ry h
  obtain ⟨k, b, a, xs, rfl, rfl, hd, en, nk, dk, q⟩ := h
  cases rx
  cases ry
  have dd := dN_dictOf I.hok hd en
  have sm := (dN_at I.hok hd).2.1
  refine wpAny_notIn_heap (knd := nestedKind X.prog X.w) (by show X.A.in1.units + 8 < cLine; rw [Around.in1_units]; omega) ⟨NK.is I.hok k _ _ nk rfl, dk⟩ sm dd ?_
  rw [atKey_full]
  exact ⟨.bl _, H, I.tok _, rfl, q⟩
/-- d[k] = True, the key new -/
def tPutN (P : Program) (w : World) : TSet := fun o i v H Q => ∃ (k : NestedKey) (b a : Addr) (xs : List Ent), o = .ref a ∧ i = .ref b ∧ v = .bl true ∧ H a = some (dN P w a xs) ∧ EntOk H xs ∧ NK H k (.ref b) ∧ k.depth ≤ 8 ∧ k ∉ xs.map (·.1) ∧ xs.length < sizeLine ∧
  Q (upd H a (dN P w a (xs ++ [(k, b)])))
theorem storedH_full {xs : List Ent} {k : NestedKey} {b : Addr} (h : k ∉ xs.map (·.1)) : storedH (xs.map full) k b (.bool true) = (xs ++ [(k, b)]).map full := by
  have e : atKey (xs.map full) k = none := by
    have q := atKey_full xs k
    rw [decide_eq_false h] at q
    cases z : atKey (xs.map full) k with
    | none => rfl
    | some p => rw [z] at q; cases q
  rw [storedH_new e, List.map_append]
  rfl
theorem set_putN (hu : X.A.units + 64 < cLine) : PSet X (tPutN X.prog X.w) := by
  intro pins s σ H o i v ov iv u Q I ro ri rv h
  obtain ⟨k, b, a, xs, rfl, rfl, rfl, hd, en, nk, dk, nin, hz, q⟩ := h
  cases ro
  cases ri
  cases rv
  have dd := dN_dictOf I.hok hd en
  have sm := (dN_at I.hok hd).2.1
  refine wpAny_setItem_heap (knd := nestedKind X.prog X.w) (hsz := by rw [List.length_map]; omega) (by show X.A.in1.units + 8 < cLine; rw [Around.in1_units]; omega) ⟨NK.is I.hok k _ _ nk rfl, dk⟩ dd fun h' dd' hs => ?_
  rw [storedH_full nin] at dd'
  obtain ⟨o, es, ep, ho, h2, h3, h4, _, h5⟩ := dd'
  refine ⟨_, d_write I (by rw [hd]; exact True.intro) hs ⟨o, ho⟩ (dN_ok ⟨?_, sm, o, es, ep, ho, h2, h3, h4, by rw [← keys_full]; exact h5⟩), q⟩
  rw [List.length_append, List.length_singleton]
  omega

/-! ### dict(pairs), list(d) -/
theorem vals_ref_inv : ∀ {bs : List Addr} {us : List Value}, Vals (bs.map V.ref) us → us = bs.map Value.ref
  | [], _, .nil => rfl
  | b :: bs, _, .cons r t => by
    cases r
    rw [vals_ref_inv t]
    rfl
theorem storedAll_full : ∀ (ps acc : List Ent), (acc.map (·.1)).Nodup → ∃ L : List Ent, storedAllH (acc.map full) (ps.map full) = L.map full ∧ (L.map (·.1)).Nodup ∧ (∀ x ∈ L, x ∈ acc ∨ x ∈ ps) ∧ (∀ k, k ∈ L.map (·.1) ↔ k ∈ acc.map (·.1) ∨ k ∈ ps.map (·.1))
  | [], acc, hn => ⟨acc, rfl, hn, fun x h => .inl h, fun k => by simp⟩
  | p :: ps, acc, hn => by
    have step : ∃ acc' : List Ent, storedH (acc.map full) p.1 p.2 (.bool true) = acc'.map full ∧ (acc'.map (·.1)).Nodup ∧ (∀ x ∈ acc', x ∈ acc ∨ x = p) ∧ (∀ k, k ∈ acc'.map (·.1) ↔ k ∈ acc.map (·.1) ∨ k = p.1) := by
      by_cases h : p.1 ∈ acc.map (·.1)
      · refine ⟨acc, ?_, hn, fun x hx => .inl hx, fun k => ⟨.inl, fun z => z.elim id fun e => e ▸ h⟩⟩
        have q := atKey_full acc p.1
        rw [decide_eq_true h] at q
        unfold storedH
        rw [if_pos q, List.map_map]
        apply List.map_congr_left
        intro x hx
        show putAt p.1 (.bool true) (full x) = full x
        unfold putAt full
        split
        · rfl
        · rfl
      · refine ⟨acc ++ [(p.1, p.2)], storedH_full h, ?_, fun x hx => ?_, fun k => ?_⟩
        · rw [List.map_append, List.nodup_append]
          refine ⟨hn, by simp, fun a ha b hb => ?_⟩
          have : b = p.1 := by simpa using hb
          subst this
          exact fun e => h (e ▸ ha)
        · rcases List.mem_append.mp hx with hx | hx
          · exact .inl hx
          · exact .inr (by simpa using hx)
        · simp
    obtain ⟨acc', e1, n1, m1, k1⟩ := step
    obtain ⟨L, e2, n2, m2, k2⟩ := storedAll_full ps acc' n1
    refine ⟨L, ?_, n2, fun x hx => ?_, fun k => ?_⟩
    · show storedAllH (storedH (acc.map full) p.1 p.2 (.bool true)) (ps.map full) = _
      rw [e1, e2]
    · rcases m2 x hx with h | h
      · rcases m1 x h with h | h
        · exact .inl h
        · exact .inr (by rw [h]; exact List.mem_cons_self)
      · exact .inr (List.mem_cons_of_mem _ h)
    · rw [k2, k1, List.map_cons, List.mem_cons]
      constructor
      · rintro ((h | h) | h)
        · exact .inl h
        · exact .inr (.inl h)
        · exact .inr (.inr h)
      · rintro (h | h | h)
        · exact .inl (.inl h)
        · exact .inl (.inr h)
        · exact .inr h
/-- dict([(k, True), ..]) -/
theorem call_dictPN (hc : X.calm = true) (hu : X.A.units + 64 < cLine) : CallR X (.type "dict") (fun xs H Q => ∃ (a : Addr) (ts : List Addr) (ks : List Ent), xs = [.ref a] ∧ SqL X.K H a (ts.map V.ref) ∧ ts.length = ks.length ∧
    (∀ (i : Nat) (t : Addr) (x : Ent), ts[i]? = some t → ks[i]? = some x → H t = some (.tup [.ref x.2, .bl true])) ∧ EntOk H ks ∧
    ∀ (p : Addr) (L : List Ent), H p = none → (L.map (·.1)).Nodup → (∀ x ∈ L, x ∈ ks) → (∀ k, k ∈ L.map (·.1) ↔ k ∈ ks.map (·.1)) → Q (.ref p) (upd H p (dN X.prog X.w p L))) := by
  intro pins s σ H xs us Q I r h
  obtain ⟨a, ts, ks, rfl, hq, hl, ht, en, q⟩ := h
  obtain ⟨u, rfl, rx⟩ := vals1 r
  cases rx
  obtain ⟨its, rv, pl, hz⟩ := I.list hq
  have ei := vals_ref_inv rv
  subst ei
  rw [List.length_map] at hz
  obtain ⟨o, n, ho, hcl, hdd, hdat⟩ := pl
  have tupAt : ∀ (i : Nat) (t : Addr) (x : Ent), ts[i]? = some t → ks[i]? = some x → PairAt s.heap t (.ref x.2) (.bool true) := fun i t x e1 e2 => by
    obtain ⟨_, its, rv, ot, h1, h2, m, h3⟩ := (show ObjOk X.prog X.w H s.heap t (.tup [.ref x.2, .bl true]) from I.hok _ _ (ht i t x e1 e2))
    cases rv with
    | cons r1 r2 =>
      cases r2 with
      | cons r2 r3 =>
        cases r3
        cases r1
        cases r2
        exact .inl ⟨ot, h1, h2, m, h3⟩
  have key : ∀ x ∈ ks, (nestedKind X.prog X.w).is s.heap x.1 x.2 := fun x hx => ⟨NK.is I.hok _ _ _ (en x hx).1 rfl, (en x hx).2⟩
  refine call_dict_pairsH (knd := nestedKind X.prog X.w) (ps := ks.map full) (PairArg.list a (ts.map Value.ref).toArray (fun j => ts.getD j 0) (ks.map fun x => (Value.ref x.2, Value.bool true))) (I.ok.hd hc) (by show X.A.in1.in1.units + 8 < cLine; rw [Around.in1_units, Around.in1_units]; omega)
    ⟨⟨o, n, ho, hcl, hdd, hdat⟩, by simp [hl], fun j k v e => ?_⟩ ⟨by simp, fun i kk vv e => ?_⟩ (fun h' hk x hx => ?_) (by rw [List.length_map, ← hl]; exact hz) fun h' tk hd' hk => ?_
  · rw [List.getElem?_map] at e
    cases hx : ks[j]? with
    | none => rw [hx] at e; cases e
    | some x =>
      rw [hx] at e
      cases e
      have hj : j < ts.length := by rw [hl]; exact (List.getElem?_eq_some_iff.mp hx).1
      have et : ts[j]? = some ts[j] := List.getElem?_eq_getElem hj
      have eg : ts.getD j 0 = ts[j] := by rw [List.getD_eq_getElem?_getD, et]; rfl
      refine ⟨?_, ?_⟩
      · show (ts.map Value.ref).toArray[j]? = some (.ref (ts.getD j 0))
        rw [eg]
        simp [hj]
      · show PairAt s.heap (ts.getD j 0) _ _
        rw [eg]
        exact tupAt j _ x et hx
  · obtain ⟨⟨k, v⟩, e1, e2⟩ : ∃ p : Value × Value, (ks.map fun x => (Value.ref x.2, Value.bool true))[i]? = some p ∧ (kk, vv) = p := ⟨_, e, rfl⟩
    cases e2
    rw [List.getElem?_map] at e1
    cases hx : ks[i]? with
    | none => rw [hx] at e1; cases e1
    | some x =>
      rw [hx] at e1
      cases e1
      exact ⟨x.1, x.2, by rw [List.getElem?_map, hx]; rfl, rfl⟩
  · obtain ⟨y, hy, rfl⟩ := List.mem_map.mp hx
    obtain ⟨n, d⟩ := key y hy
    exact ⟨NestedIs.at (fun b ob vs m hb _ => hk b ob (Nat.ne_of_lt (Heap.lt_size hb)) (by simp) hb) _ _ n, d⟩
  · obtain ⟨L, eL, nL, mL, kL⟩ := storedAll_full ks [] List.nodup_nil
    have eL' : storedAllH [] (ks.map full) = L.map full := eL
    rw [eL'] at hd'
    obtain ⟨o', es, ep, ho', h2, h3, h4, _, h5⟩ := hd'
    have lz : L.length ≤ sizeLine := by
      have z := storedAllH_length (ks.map full) ([] : List (NestedKey × Addr × Value))
      rw [eL', List.length_map, List.length_nil, List.length_map] at z
      omega
    refine ⟨.ref s.heap.objs.size, _, I.laid (t' := tk) (fun b o e => hk b o (by simp) e) (Nat.le_refl _) (dN_ok ⟨lz, beq_eq_false_iff_ne.mpr (Nat.ne_of_gt I.big), o', es, ep, ho', h2, h3, h4, nL⟩), rfl, q _ L (I.hok.fresh (Nat.le_refl _)) nL (fun x hx => ?_) fun k => ?_⟩
    · rcases mL x hx with h | h
      · cases h
      · exact h
    · rw [kL]; simp
/-- list(d) -/
theorem call_list_dN (hc : X.calm = true) : CallR X (.type "list") (fun xs H Q => ∃ d L, xs = [V.ref d] ∧ H d = some (dN X.prog X.w d L) ∧ ∀ p, H p = none → Q (.ref p) (upd H p (.lst (L.map fun x => V.ref x.2)))) := by
  intro pins s σ H xs us Q I r h
  obtain ⟨d, L, rfl, hd, q⟩ := h
  obtain ⟨u, rfl, rx⟩ := vals1 r
  cases rx
  obtain ⟨z, hs, o, es, ep, ho, hx, hdt, he, hn⟩ := dN_at I.hok hd
  have l1 : es.size = L.length := by rw [size_of_entries he, List.length_map]
  refine PySem.W.kdl_call (kdl_raw hs hx hdt) (I.ok.hd hc) ho (by omega) fun h' tk acc' c' kp e it => ?_
  have ea : acc'.toList = L.map fun x => Value.ref x.2 := by
    have hl : acc'.toList.length = L.length := by rw [Array.length_toList, it.1]; exact l1
    apply List.ext_getElem?
    intro j
    rw [List.getElem?_map]
    cases hj : acc'.toList[j]? with
    | none =>
      have h1 := List.getElem?_eq_none_iff.mp hj
      rw [List.getElem?_eq_none (by omega)]
      rfl
    | some v =>
      obtain ⟨en, hen, hv⟩ := it.2 j v (by rw [← Array.getElem?_toList]; exact hj)
      have qe := entry_at he j
      rw [hen, List.getElem?_map] at qe
      cases hb : L[j]? with
      | none =>
        rw [hb] at qe
        exact nomatch (show some en = none from qe)
      | some b =>
        rw [hb] at qe
        have e2 : en = entryOfKey (nestedKind X.prog X.w) (full b) := Option.some.inj qe
        rw [hv, e2]
        rfl
  have rv : Vals (L.map fun x => V.ref x.2) acc'.toList := by
    rw [ea]
    have := vals_refs (L.map (·.2))
    rw [List.map_map, List.map_map] at this
    exact this
  refine ⟨.ref s.heap.objs.size, _, I.laid (t' := tk) (o := .lst (L.map fun x => V.ref x.2)) kp (Nat.le_refl _) ?_, rfl, q _ (I.hok.fresh (Nat.le_refl _))⟩
  exact ⟨by rw [List.length_map]; omega, acc'.toList, c', rv, by rw [Array.toArray_toList]; exact e⟩
end
end Zr
end
section
set_option maxRecDepth 100000
set_option maxHeartbeats 2000000
/-! Rules over the layer: sorted of a list of data (nested tuples), of a tuple of whole numbers. -/
namespace Zr
open PySem PySem.W PySem.Calls PyProof.Rows
section
variable {prog : Program} {w : World} {A : Around} {E : Value → Shared → Prop} {s : Shared}
theorem collect_tuple {l : Addr} {vs : List Value} {Q : List Value → Shared → Prop} (hl : s.heap.IsTuple l vs.toArray)
    (h : Q vs { s with heap := (s.heap.push (seqObj "list" #[] 0)).update s.heap.objs.size (Obj.mapSeq (· ++ vs.toArray)) }) (hsz : vs.length ≤ sizeLine := by size_fits) :
    wpAny (model prog w) A (collect (.ref l)) Q E s := by
  obtain ⟨o, ho, hc, n, hd⟩ := id hl
  unfold collect
  refine wpAny_bind (wpAny_runValue (codeAny_builtin entry_proto_collect' ?_))
  show wpAny _ _ (do again (.builtin "list.__iadd__" ⟨[← newList [], .ref l], []⟩)) _ _ s
  refine wpAny_bind (wpAny_newList (wpAny_pure ⟨Code.quiet_builtin _ (by decide +kernel), codeAny_builtin entry_list_iadd' ?_⟩))
  show wpAny _ _ (Builtin.List.listExtendWith (.ref s.heap.objs.size) (.ref l) (.ref s.heap.objs.size)) _ _ { s with heap := s.heap.push (seqObj "list" #[] 0) }
  unfold Builtin.List.listExtendWith
  have ho' : (s.heap.push (seqObj "list" #[] 0)).get? l = some o := Heap.get?_push_of_some _ ho
  refine wpAny_bind (wpAny_typeOf (T := "tuple") ⟨o, ho', hc⟩ ?_)
  have ht : (Value.type "tuple" == Value.type "tuple") = true := by rfl
  rw [if_pos (by rw [ht]; simp)]
  refine wpAny_bind (listItems_at ho' hd ?_)
  refine wpAny_bind (listItems_at (xs := #[]) (n := 0) (Heap.get?_push_size _ rfl) rfl ?_)
  rw [if_neg (by simp)]
  refine wpAny_bind (listUpdate_at (xs := #[]) (n := 0) (Heap.get?_push_size _ rfl) rfl ?_ (Nat.zero_le _) (by show (#[] ++ vs.toArray).size ≤ sizeLine + 1; simp only [Array.size_append, List.size_toArray, List.length_nil]; omega))
  refine wpAny_pure ?_
  show wpAny (model prog w) A (do
      let o ← load s.heap.objs.size
      match o.data with
      | .seq xs _ => pure xs.toList
      | _ => unsupported "internal:collect") Q E { s with heap := (s.heap.push (seqObj "list" #[] 0)).update s.heap.objs.size (Obj.mapSeq (· ++ vs.toArray)) }
  refine wpAny_bind (wpAny_load (get?_update_seq (Heap.get?_push_size _ rfl) _) ?_)
  show wpAny _ _ (pure ((#[] : Array Value) ++ vs.toArray).toList) Q E _
  rw [show ((#[] : Array Value) ++ vs.toArray).toList = vs by simp]
  exact wpAny_pure h
theorem sortedT_of_sort {l : Addr} {vs : List Value} {kw : List (Str × Value)} {Q : Value → Shared → Prop} (hl : s.heap.IsTuple l vs.toArray) (hL : vs.length ≤ sizeLine) (ha1 : argsOk "sorted" ⟨[.ref l], kw⟩) (ha2 : ∀ x, argsOk "list.sort" ⟨[.ref x], kw⟩)
    (body : ∀ E' : Value → Shared → Prop, wpAny (model prog w) A.in1.in1 (Builtin.«list.sort» ⟨[.ref (s.heap.objs.size + 1)], kw⟩) (fun f s' => f = .done (.ret .none) ∧ Q (.ref (s.heap.objs.size + 1)) s') E' { s with heap := copyHeap s.heap vs }) :
    wpAny (model prog w) A (call (.builtin "sorted") [.ref l] kw) Q E s := by
  refine call_function_entry_kw kind_sorted plain_sorted entry_sorted ha1 ?_
  unfold Builtin.«sorted»
  refine wpAny_bind (m := checkCount "sorted" 1 1 _) (wpAny_pure ?_)
  refine wpAny_bind (collect_tuple hl ?_ hL)
  refine wpAny_bind (wpAny_newList ?_ hL)
  have hsz : ((s.heap.push (seqObj "list" #[] 0)).update s.heap.objs.size (Obj.mapSeq (· ++ vs.toArray))).objs.size = s.heap.objs.size + 1 := by
    rw [Heap.size_update, size_push']
  show wpAny _ _ _ _ _ { s with heap := copyHeap s.heap vs }
  rw [hsz]
  refine wpAny_bind (wpAny_holding (wpAny_call_entry_kw slot_list_sort ⟨_, copyHeap_at s.heap vs, rfl⟩ entry_list_sort ?body (ha2 _)))
  case body =>
    show wpAny (model prog w) A.in1.in1 (Builtin.«list.sort» ⟨[.ref (s.heap.objs.size + 1)], kw⟩) _ _ _
    refine wpAny_mono (body _) (fun f s' hf => ?_) fun _ _ e => e
    obtain ⟨rfl, hq⟩ := hf
    exact ⟨_, rfl, wpAny_pure ⟨_, rfl, hq⟩⟩
/-- sorted(t), t a tuple -/
theorem sorted_tuple {β : Type} {vs : List Value} {bs : List β} {enc : β → PyData} {R : Value → β → Prop} {l : Addr} {Q : Value → Shared → Prop} (hl : s.heap.IsTuple l vs.toArray) (e : EachIs R vs bs) (er : EachIs (fun v b => ∃ as, Reads s.heap v (enc b) as) vs bs) (hal : AllAlike (bs.map enc)) (hk : Sortable (bs.map enc)) (hL : bs.length ≤ sizeLine)
    (hu : ∀ b, b ∈ bs → A.units + 2 + (enc b).depth < cLine) (h : ∀ out, out.length = bs.length → EachIs R out (bs.mergeSort (dataLe false enc)) → Q (.ref (s.heap.objs.size + 1)) { s with heap := sortedAll s.heap vs (List.toArray out) }) :
    wpAny (model prog w) A (call (.builtin "sorted") [.ref l]) Q E s := by
  have er' : EachIs (fun v b => ∃ as, Reads (sortingHeap (copyHeap s.heap vs) (s.heap.objs.size + 1) vs) v (enc b) as) vs bs := er.mono fun _ _ ⟨as, r⟩ => ⟨as, PyProof.Rows.Reads.keeps (fun _ _ => sorting_copy_old) r⟩
  exact sortedT_of_sort hl (by rw [e.length]; exact hL) (args_sorted1 _) (fun _ => args_list_sort _) fun _ => list_sort_vals (s := { s with heap := copyHeap s.heap vs }) (copyHeap_at s.heap vs) (SortsAt.data (s := { s with heap := sortingHeap (copyHeap s.heap vs) (s.heap.objs.size + 1) vs }) (each_map (R := fun v d => ∃ as, Reads (sortingHeap (copyHeap s.heap vs) (s.heap.objs.size + 1) vs) v d as) enc er') hal hk (bound_map hu)) (by rw [e.length]; exact hL)
    ⟨rfl, h _ (by rw [sortVals_length false rfl]; exact e.length) (sortVals_data false e er' hal)⟩
end
end Zr

namespace Zr
open PySem PySem.Spec PyProof.Rows L2
section
variable {X : Cx}
theorem each_refs {β : Type} {f : β → Addr} : ∀ (bs : List β), PySem.W.EachIs (fun v b => v = Value.ref (f b)) (bs.map fun b => Value.ref (f b)) bs
  | [] => .nil
  | _ :: r => .cons rfl (each_refs r)
theorem each_refs_inv {β : Type} {f : β → Addr} : ∀ {vs : List Value} {bs : List β}, PySem.W.EachIs (fun v b => v = Value.ref (f b)) vs bs → vs = bs.map fun b => Value.ref (f b)
  | _, _, .nil => rfl
  | _, _, .cons h t => by
    rw [h, each_refs_inv t]
    rfl
theorem vals_refsB {β : Type} {f : β → Addr} : ∀ bs : List β, Vals (bs.map fun b => V.ref (f b)) (bs.map fun b => Value.ref (f b))
  | [] => .nil
  | _ :: r => .cons rfl (vals_refsB r)
theorem vals_refB_inv {β : Type} {f : β → Addr} : ∀ {bs : List β} {us : List Value}, Vals (bs.map fun b => V.ref (f b)) us → us = bs.map fun b => Value.ref (f b)
  | [], _, .nil => rfl
  | b :: bs, _, .cons r t => by
    cases r
    rw [vals_refB_inv t]
    rfl
theorem each_of {β : Type} {R : Value → β → Prop} {f : β → Value} : ∀ {bs : List β}, (∀ b ∈ bs, R (f b) b) → PySem.W.EachIs R (bs.map f) bs
  | [], _ => .nil
  | b :: r, h => .cons (h b List.mem_cons_self) (each_of fun c hc => h c (List.mem_cons_of_mem _ hc))
/-- sorted(xs): a list of objects that read as data -/
theorem cr_sortedD {k : Nat} (hr : Room k X.A) : CallR X (.builtin "sorted") (fun vs H Q => ∃ (β : Type) (bs : List β) (f : β → Addr) (enc : β → PyData) (a : Addr), vs = [.ref a] ∧ SqL X.K H a (bs.map fun b => V.ref (f b)) ∧ (∀ b ∈ bs, Dp X.K H (.ref (f b)) (enc b)) ∧
    PySem.W.AllAlike (bs.map enc) ∧ PySem.W.Sortable (bs.map enc) ∧ (∀ b ∈ bs, (enc b).depth ≤ 50) ∧ ∀ p, H p = none → Q (.ref p) (upd H p (.lst ((bs.mergeSort (PySem.W.dataLe false enc)).map fun b => V.ref (f b))))) := by
  intro pins s σ H xs us Q I r h
  obtain ⟨β, bs, f, enc, a, rfl, hq, hd, hal, hk, hdp, q⟩ := h
  obtain ⟨u, rfl, rx⟩ := vals1 r
  cases rx
  obtain ⟨its, rv, pl, hz⟩ := I.list hq
  have ei := vals_refB_inv rv
  subst ei
  rw [List.length_map] at hz
  have hu := hr.units
  refine PySem.W.sorted_data (R := fun v b => v = Value.ref (f b)) pl.isList (each_refs bs) (each_of fun b hb => Dp.reads I _ _ _ (hd b hb) rfl) hal hk hz (fun b hb => by have := hdp b hb; omega) fun out hl eo => ?_
  have eo := each_refs_inv eo
  subst eo
  obtain ⟨c, hc⟩ := sortedAll_at s.heap (bs.map fun b => Value.ref (f b)) (List.toArray ((bs.mergeSort (PySem.W.dataLe false enc)).map fun b => Value.ref (f b)))
  refine ⟨.ref (s.heap.objs.size + 1), _, I.laid (t' := s.toks) (o := .lst ((bs.mergeSort (PySem.W.dataLe false enc)).map fun b => V.ref (f b))) (fun b o e => sortedAll_old e) (Nat.le_succ _) ?_, rfl, q _ (I.hok.fresh (Nat.le_succ _))⟩
  exact ⟨by rw [List.length_map, List.length_mergeSort]; exact hz, _, c, vals_refsB _, hc⟩
theorem each_ints : ∀ {ns : List Int} {us : List Value}, Vals (ns.map V.int) us → PySem.W.EachIs (fun v (n : Int) => ∃ t, v = Value.int n t) us ns
  | [], _, .nil => .nil
  | _ :: _, _, .cons r t => .cons r (each_ints t)
theorem each_ints_inv : ∀ {us : List Value} {ns : List Int}, PySem.W.EachIs (fun v (n : Int) => ∃ t, v = Value.int n t) us ns → Vals (ns.map V.int) us
  | _, _, .nil => .nil
  | _, _, .cons r t => .cons r (each_ints_inv t)
/-- sorted(t), t a tuple of whole numbers -/
theorem cr_sortedTI {k : Nat} (hr : Room k X.A) : CallR X (.builtin "sorted") (fun vs H Q => ∃ (a : Addr) (ns : List Int), vs = [.ref a] ∧ SqT X.K H a (ns.map V.int) ∧ ∀ (ns' : List Int) (p : Addr), ns'.Perm ns → ns'.Pairwise (· ≤ ·) → H p = none → Q (.ref p) (upd H p (.lst (ns'.map V.int)))) := by
  intro pins s σ H xs us Q I r h
  obtain ⟨a, ns, rfl, hq, q⟩ := h
  obtain ⟨u, rfl, rx⟩ := vals1 r
  cases rx
  obtain ⟨its, rv, pl, hz⟩ := I.tuple hq
  rw [List.length_map] at hz
  have hu := hr.units
  refine sorted_tuple (enc := fun n : Int => PyData.int n) (R := fun v (n : Int) => ∃ t, v = Value.int n t) pl (each_ints rv) ((each_ints rv).mono fun v n ⟨t, e⟩ => ⟨_, by rw [e]; exact Reads.int n t⟩) (PySem.W.AllAlike.of fun _ _ => by simp [PySem.W.alike]) (PySem.W.Sortable.others fun b => ⟨(fun z => nomatch z), fun xs z => nomatch z⟩) hz
    (fun b hb => by have : (PyData.int b).depth = 0 := by simp [PyData.depth]
                    omega) fun out hl eo => ?_
  have eo := each_ints_inv eo
  obtain ⟨c, hc⟩ := sortedAll_at s.heap its (List.toArray out)
  refine ⟨.ref (s.heap.objs.size + 1), _, I.laid (t' := s.toks) (o := .lst ((ns.mergeSort (PySem.W.dataLe false fun n : Int => PyData.int n)).map V.int)) (fun b o e => sortedAll_old e) (Nat.le_succ _) ?_, rfl, q _ _ (List.mergeSort_perm _ _) ?_ (I.hok.fresh (Nat.le_succ _))⟩
  · exact ⟨by rw [List.length_map, List.length_mergeSort]; exact hz, _, c, eo, hc⟩
  · have e := PySem.W.dataLe_int (fun n : Int => n)
    have e' : (PySem.W.dataLe false fun n : Int => PyData.int n) = fun a b => decide (a ≤ b) := e
    rw [e']
    have pw := List.pairwise_mergeSort (le := fun a b : Int => decide (a ≤ b)) (fun a b c h1 h2 => by simp only [decide_eq_true_eq] at *; omega) (fun a b => by simp only [Bool.or_eq_true, decide_eq_true_eq]; omega) ns
    exact pw.imp fun {a b} h => of_decide_eq_true h
end
end Zr
end
section
set_option maxRecDepth 100000
set_option maxHeartbeats 2000000
/-! list(zip(xs, ys)): a list of new pairs. Over the heap, then a rule over the layer. -/
namespace PySem.W
open PySem PySem.Calls PyProof.Rows PyProof.V PySem.Spec

/-- the addresses as hold the pairs of xs and ys, in order, as tuples; they lie above lo and rise -/
structure ZpG (xs ys : Array Value) (lo : Addr) (h : Heap) (as : List Addr) : Prop where
  rise : as.Pairwise (· < ·)
  above : ∀ a ∈ as, lo < a
  pairs : ∀ (j : Nat) (a : Addr), as[j]? = some a → ∃ x y, xs[j]? = some x ∧ ys[j]? = some y ∧ h.get? a = some { cls := .type "tuple", data := .seq #[x, y] }
theorem ZpG.there {xs ys : Array Value} {lo : Addr} {h : Heap} {as : List Addr} (g : ZpG xs ys lo h as) {a : Addr} (ha : a ∈ as) : a < h.objs.size := by
  obtain ⟨j, hj⟩ := List.mem_iff_getElem?.mp ha
  obtain ⟨_, _, _, _, e⟩ := g.pairs j a hj
  exact Heap.lt_size e
/-- the zip at z, behind i items -/
def ZpSt (h : Heap) (z TI TO i1 i2 l1 l2 S : Addr) (xs ys : Array Value) (i : Nat) : Prop :=
  IsPair h TI (.ref i1) (.ref i2) ∧ h.IsListIter i1 l1 i ∧ h.IsListIter i2 l2 i ∧ h.IsList l1 xs ∧ h.IsList l2 ys ∧
  ((IsZip h z TI TO .none ∧ ∃ a b, IsPair h TO a b) ∨ ∃ T f oT, IsZipHeld h z TI TO T f ∧ h.get? T = some oT ∧ T ≠ z ∧ T ≠ i1 ∧ T ≠ i2 ∧ T ≠ S)
section
variable {prog : Program} {w : World} {A : Around} {E : Value → Shared → Prop} {s : Shared} {z TI TO i1 i2 l1 l2 S : Addr} {xs ys : Array Value}
theorem zp_item {i : Nat} {Q : Option Value → Shared → Prop} (D : ZipApart z TI TO i1 i2 l1 l2) (hst : ZpSt s.heap z TI TO i1 i2 l1 l2 S xs ys i) (hS : S < s.heap.objs.size) (h1 : i < xs.size) (h2 : i < ys.size)
    (hQ : ∀ h', ZpSt h' z TI TO i1 i2 l1 l2 S xs ys (i + 1) → h'.get? s.heap.objs.size = some { cls := .type "tuple", data := .seq #[xs[i], ys[i]] } → h'.objs.size = s.heap.objs.size + 1 →
      (∀ b o, b ≠ z → b ≠ TO → b ≠ i1 → b ≠ i2 → s.heap.get? b = some o → h'.get? b = some o) → Q (some (.ref s.heap.objs.size)) { s with heap := h' }) :
    wpAny (model prog w) A (pyNext (.ref z)) Q E s := by
  obtain ⟨hTI, it1, it2, hl1, hl2, hz⟩ := hst
  have hx : xs[i]? = some xs[i] := Array.getElem?_eq_getElem h1
  have hy : ys[i]? = some ys[i] := Array.getElem?_eq_getElem h2
  have it1' := it1
  have it2' := it2
  have lt : ∀ {c : Addr} {o : Obj}, s.heap.get? c = some o → s.heap.objs.size ≠ c := fun e => Nat.ne_of_gt (Heap.lt_size e)
  rcases hz with ⟨hz, a, b, hTO⟩ | ⟨T, f, oT, hz, hT, n1, n2, n3, n4⟩
  · refine wpAny_pyNext_zip_item D hz hTI hTO it1 it2 hl1 hl2 hx hy fun h' a1 a2 a3 a4 a5 a6 hk => hQ h' ⟨hk _ _ D.TIz D.TITO D.TIi1 D.TIi2 hTI, a3, a4, hl1.at fun o e => hk _ o D.l1z D.l1TO D.l1i1 D.l1i2 e, hl2.at fun o e => hk _ o D.l2z D.l2TO D.l2i1 D.l2i2 e,
      .inr ⟨_, false, _, a1, a5, lt hz, (by obtain ⟨_, e, _⟩ := it1'; exact lt e), (by obtain ⟨_, e, _⟩ := it2'; exact lt e), Nat.ne_of_gt hS⟩⟩ a5 a6 hk
  · refine wpAny_pyNext_zip_item_held D hz hT hTI it1 it2 hl1 hl2 hx hy fun h' a1 a3 a4 a5 a6 hk => hQ h' ⟨hk _ _ D.TIz D.TIi1 D.TIi2 hTI, a3, a4, hl1.at fun o e => hk _ o D.l1z D.l1i1 D.l1i2 e, hl2.at fun o e => hk _ o D.l2z D.l2i1 D.l2i2 e,
      .inr ⟨T, true, oT, a1, hk _ _ n1 n2 n3 hT, n1, n2, n3, n4⟩⟩ a5 a6 fun b o b1 _ b3 b4 e => hk b o b1 b3 b4 e
theorem zp_done {i : Nat} {Q : Option Value → Shared → Prop} (hh : A.handled = none) (D : ZipApart z TI TO i1 i2 l1 l2) (hst : ZpSt s.heap z TI TO i1 i2 l1 l2 S xs ys i) (hend : xs.size ≤ i ∨ ys.size ≤ i)
    (hQ : ∀ h', (∀ b o, b ≠ z → b ≠ TO → b ≠ i1 → b ≠ i2 → s.heap.get? b = some o → h'.get? b = some o) → Q none { s with heap := h' }) : wpAny (model prog w) A (pyNext (.ref z)) Q E s := by
  obtain ⟨hTI, it1, it2, hl1, hl2, hz⟩ := hst
  have he : xs[i]? = none ∨ ys[i]? = none := by
    rcases hend with h | h
    · exact .inl (Array.getElem?_eq_none h)
    · exact .inr (Array.getElem?_eq_none h)
  rcases hz with ⟨hz, a, b, hTO⟩ | ⟨T, f, oT, hz, hT, n1, n2, n3, n4⟩
  · exact wpAny_pyNext_zip_end hh D hz hTI hTO it1 it2 hl1 hl2 he hQ
  · exact wpAny_pyNext_zip_end_held hh D hz hT hTI it1 it2 hl1 hl2 he fun h' hk => hQ h' fun b o b1 _ b3 b4 e => hk b o b1 b3 b4 e
theorem ZpSt.keep {h h' : Heap} {i : Nat} (st : ZpSt h z TI TO i1 i2 l1 l2 S xs ys i) (k : ∀ b o, b ≠ S → h.get? b = some o → h'.get? b = some o) (n : S ≠ z ∧ S ≠ TI ∧ S ≠ TO ∧ S ≠ i1 ∧ S ≠ i2 ∧ S ≠ l1 ∧ S ≠ l2) : ZpSt h' z TI TO i1 i2 l1 l2 S xs ys i := by
  obtain ⟨hTI, it1, it2, hl1, hl2, hz⟩ := st
  obtain ⟨n1, n2, n3, n4, n5, n6, n7⟩ := n
  refine ⟨k _ _ n2.symm hTI, it1.at fun o e => k _ o n4.symm e, it2.at fun o e => k _ o n5.symm e, hl1.at fun o e => k _ o n6.symm e, hl2.at fun o e => k _ o n7.symm e, ?_⟩
  rcases hz with ⟨hz, a, b, hTO⟩ | ⟨T, f, oT, hz, hT, m1, m2, m3, m4⟩
  · exact .inl ⟨k _ _ n1.symm hz, a, b, k _ _ n3.symm hTO⟩
  · exact .inr ⟨T, f, oT, k _ _ n1.symm hz, k _ _ m4 hT, m1, m2, m3, m4⟩
end
section
variable {prog : Program} {w : World} {A : Around} {s : Shared} {R : Result → Shared → Prop} {z TI TO i1 i2 l1 l2 S : Addr} {xs ys : Array Value}

theorem zp_loop (hh : A.handled = none) (D : ZipApart z TI TO i1 i2 l1 l2) (nS : S ≠ z ∧ S ≠ TI ∧ S ≠ TO ∧ S ≠ i1 ∧ S ≠ i2 ∧ S ≠ l1 ∧ S ≠ l2) (hn : xs.size ≤ sizeLine) (hl : ys.size = xs.size) (res : Value) {lo : Addr} (hlo : S ≤ lo ∧ z ≤ lo ∧ TO ≤ lo ∧ i1 ≤ lo ∧ i2 ≤ lo) {h₁ : Heap}
    (hR : ∀ h' tk acc c as, (∀ b o, b ≠ S → b ≠ z → b ≠ TO → b ≠ i1 → b ≠ i2 → h₁.get? b = some o → h'.get? b = some o) → h'.get? S = some { cls := .type "list", dict := none, data := .seq acc c, slots := #[] } → as.length = xs.size → ZpG xs ys lo h' as →
      acc.toList = as.map Value.ref → R (.ok (.ret res)) { s with heap := h', toks := tk }) :
    ∀ (k i : Nat) (h : Heap) (tk c : Nat) (acc : Array Value) (as : List Addr), xs.size - i = k → i ≤ xs.size → ZpSt h z TI TO i1 i2 l1 l2 S xs ys i → (∀ b o, b ≠ S → b ≠ z → b ≠ TO → b ≠ i1 → b ≠ i2 → h₁.get? b = some o → h.get? b = some o) →
      h.get? S = some { cls := .type "list", dict := none, data := .seq acc c, slots := #[] } → acc.toList = as.map Value.ref → as.length = i → ZpG xs ys lo h as → lo < h.objs.size →
      codeAny (model prog w) A (.builtin "list.extend.loop" ⟨[.ref S, .ref z, res], []⟩) R { s with heap := h, toks := tk } := by
  obtain ⟨n1, n2, n3, n4, n5, n6, n7⟩ := id nS
  have na : ∀ {a : Addr}, lo < a → a ≠ S ∧ a ≠ z ∧ a ≠ TO ∧ a ≠ i1 ∧ a ≠ i2 := fun {a} ha => ⟨Nat.ne_of_gt (Nat.lt_of_le_of_lt hlo.1 ha), Nat.ne_of_gt (Nat.lt_of_le_of_lt hlo.2.1 ha), Nat.ne_of_gt (Nat.lt_of_le_of_lt hlo.2.2.1 ha), Nat.ne_of_gt (Nat.lt_of_le_of_lt hlo.2.2.2.1 ha), Nat.ne_of_gt (Nat.lt_of_le_of_lt hlo.2.2.2.2 ha)⟩
  intro k
  induction k with
  | zero =>
    intro i h tk c acc as hk hi hst hkeep hS hacc hal hG hIs
    have hin : i = xs.size := by omega
    refine codeAny_builtin PySem.F.entry_extend_loop ?_
    rw [Around.under_plainId PySem.F.plain_extend_loop _]
    show wpAny _ A.in1 (pyNext (.ref z) >>= _) _ _ _
    refine wpAny_bind (zp_done (s := { s with heap := h, toks := tk }) (A := A.in1) hh D hst (.inl (by omega)) fun h' he => ?_)
    refine wpAny_pure (hR h' tk acc c as (fun b o h1 h2 h3 h4 h5 e => he b o h2 h3 h4 h5 (hkeep b o h1 h2 h3 h4 h5 e)) (he S _ n1 n3 n4 n5 hS) (by omega) ⟨hG.rise, hG.above, fun j a hj => ?_⟩ hacc)
    obtain ⟨x, y, ex, ey, e3⟩ := hG.pairs j a hj
    obtain ⟨m1, m2, m3, m4, m5⟩ := na (hG.above a (List.mem_of_getElem? hj))
    exact ⟨x, y, ex, ey, he a _ m2 m3 m4 m5 e3⟩
  | succ k ih =>
    intro i h tk c acc as hk hi hst hkeep hS hacc hal hG hIs
    have hlt : i < xs.size := by omega
    have hlt2 : i < ys.size := by omega
    have hsz : acc.size = i := by rw [← Array.length_toList, hacc, List.length_map, hal]
    refine codeAny_builtin PySem.F.entry_extend_loop ?_
    rw [Around.under_plainId PySem.F.plain_extend_loop _]
    show wpAny _ A.in1 (pyNext (.ref z) >>= _) _ _ _
    refine wpAny_bind (zp_item (s := { s with heap := h, toks := tk }) (S := S) D hst (Heap.lt_size hS) hlt hlt2 fun h' hst' ht hz hkp => ?_)
    dsimp only at ht hz hkp ⊢
    have hS' := hkp S _ n1 n3 n4 n5 hS
    have up : ∀ b o, b ≠ S → h'.get? b = some o → (h'.update S (Obj.mapSeq (·.push (Value.ref h.objs.size)))).get? b = some o := fun b o hb e => (Heap.get?_update_other _ _ (Ne.symm hb)).trans e
    have hSl : S < h.objs.size := Heap.lt_size hS
    show wpAny _ A.in1 (updateSeq S (·.push (Value.ref h.objs.size)) >>= _) _ _ _
    refine wpAny_bind ?_
    refine wpAny_updateSeq hS' rfl (wpAny_pure ⟨plainId_quiet PySem.F.plain_extend_loop _, ih (i + 1) _ tk _ (acc.push (Value.ref h.objs.size)) (as ++ [h.objs.size]) (by omega) hlt (hst'.keep up nS)
      (fun b o h1 h2 h3 h4 h5 e => up b o h1 (hkp b o h2 h3 h4 h5 (hkeep b o h1 h2 h3 h4 h5 e))) (Heap.get?_update_self _ hS' rfl) (by rw [Array.toList_push, hacc, List.map_append]; rfl) (by rw [List.length_append, hal]; rfl) ⟨?_, ?_, ?_⟩ ?_⟩) (by rw [hsz]; omega) (by show (acc.push (Value.ref h.objs.size)).size ≤ sizeLine + 1; rw [Array.size_push, hsz]; omega)
    · refine List.pairwise_append.mpr ⟨hG.rise, List.pairwise_singleton _ _, fun a ha b hb => ?_⟩
      rw [List.mem_singleton.mp hb]
      exact hG.there ha
    · intro a ha
      rcases List.mem_append.mp ha with ha | ha
      · exact hG.above a ha
      · rw [List.mem_singleton.mp ha]; exact hIs
    · intro j b hj
      rcases Nat.lt_trichotomy j as.length with h1 | h1 | h1
      · rw [List.getElem?_append_left h1] at hj
        obtain ⟨x, y, ex, ey, e3⟩ := hG.pairs j b hj
        obtain ⟨m1, m2, m3, m4, m5⟩ := na (hG.above b (List.mem_of_getElem? hj))
        exact ⟨x, y, ex, ey, up b _ m1 (hkp b _ m2 m3 m4 m5 e3)⟩
      · subst h1
        have hb : h.objs.size = b := by simpa using hj
        subst hb
        subst hal
        exact ⟨_, _, Array.getElem?_eq_getElem hlt, Array.getElem?_eq_getElem hlt2, up _ _ (Nat.ne_of_gt hSl) ht⟩
      · have hnone : (as ++ [h.objs.size])[j]? = none := List.getElem?_eq_none (by rw [List.length_append, List.length_singleton]; omega)
        rw [hnone] at hj; cases hj
    · have e : (h'.update S (Obj.mapSeq (·.push (Value.ref h.objs.size)))).get? h.objs.size = _ := up _ _ (Nat.ne_of_gt hSl) ht
      exact Nat.lt_trans hIs (Heap.lt_size e)
end
section
variable {prog : Program} {w : World} {A : Around} {E : Value → Shared → Prop} {s : Shared} {z TI TO i1 i2 l1 l2 S : Addr} {xs ys : Array Value}
theorem zip_len_none : typeLookup (.type "zip") "__len__" = pure none := by
  rw [typeLookup_type, builtinLookup_eq_fast]; kernel_rfl
theorem zip_hint_none : typeLookup (.type "zip") "__length_hint__" = pure none := by
  rw [typeLookup_type, builtinLookup_eq_fast]; kernel_rfl
theorem zp_hint {r : Addr} (hT : s.TypeIs (.ref r) "zip") {Q : Bool → Shared → Prop} (h : Q true s) : wpAny (model prog w) A (Builtin.List.listLengthHint (.ref r)) Q E s := by
  unfold Builtin.List.listLengthHint
  refine wpAny_bind (wpAny_specialOf hT zip_len_none ?_)
  show wpAny _ A (specialOf (Value.ref r) (Str.ofString "__length_hint__") >>= _) _ _ _
  refine wpAny_bind (wpAny_specialOf hT zip_hint_none ?_)
  exact wpAny_pure h
theorem zp_extend {R : Result → Shared → Prop} (hh : A.handled = none) (D : ZipApart z TI TO i1 i2 l1 l2) (nS : S ≠ z ∧ S ≠ TI ∧ S ≠ TO ∧ S ≠ i1 ∧ S ≠ i2 ∧ S ≠ l1 ∧ S ≠ l2) (hn : xs.size ≤ sizeLine) (hl : ys.size = xs.size) (res : Value) {lo : Addr} (hlo : S ≤ lo ∧ z ≤ lo ∧ TO ≤ lo ∧ i1 ≤ lo ∧ i2 ≤ lo)
    (hlt : lo < s.heap.objs.size) (hst : ZpSt s.heap z TI TO i1 i2 l1 l2 S xs ys 0) (hz : IsZip s.heap z TI TO .none) (c₀ : Nat) (hS : s.heap.get? S = some { cls := .type "list", data := .seq #[] c₀ })
    (hR : ∀ h' tk acc c as, (∀ b o, b ≠ S → b ≠ z → b ≠ TO → b ≠ i1 → b ≠ i2 → s.heap.get? b = some o → h'.get? b = some o) → h'.get? S = some { cls := .type "list", dict := none, data := .seq acc c, slots := #[] } → as.length = xs.size → ZpG xs ys lo h' as →
      acc.toList = as.map Value.ref → R (.ok (.ret res)) { s with heap := h', toks := tk }) :
    wpAny (model prog w) A.in1 (Builtin.List.listExtendWith (.ref S) (.ref z) res)
      (fun fin s' => match fin with | .done f => R (.ok f) s' | .again c' => c'.quiet = true ∧ codeAny (model prog w) A c' R s') (fun e s' => R (.error e) s') s := by
  have key : ∀ (h : Heap) (c₁ tk : Nat), (∀ b o, b ≠ S → s.heap.get? b = some o → h.get? b = some o) → s.heap.objs.size ≤ h.objs.size →
      h.get? S = some { cls := .type "list", data := .seq #[] c₁ } → codeAny (model prog w) A (.builtin "list.extend.loop" ⟨[.ref S, .ref z, res], []⟩) R { s with heap := h, toks := tk } := by
    intro h c₁ tk hk hsz hS₁
    exact zp_loop (s := s) (h₁ := s.heap) hh D nS hn hl res hlo hR xs.size 0 h tk c₁ #[] [] (Nat.sub_zero _) (Nat.zero_le _) (hst.keep hk nS) (fun b o hb _ _ _ _ e => hk b o hb e) hS₁ rfl rfl
      ⟨List.Pairwise.nil, (fun _ ha => nomatch ha), (fun j a hj => by simp at hj)⟩ (Nat.lt_of_lt_of_le hlt hsz)
  have hT : s.TypeIs (.ref z) "zip" := ⟨_, hz, rfl⟩
  unfold Builtin.List.listExtendWith
  refine wpAny_bind (wpAny_typeOf (T := "zip") hT ?_)
  have h1 : Builtin.List.listSameRef (.ref S) (.ref z) = false := by simp [Builtin.List.listSameRef, nS.1]
  have h2 : (Value.type "zip" == Value.type "list") = false := by decide
  have h3 : (Value.type "zip" == Value.type "tuple") = false := by decide
  simp only [h1, h2, h3, Bool.or_false, Bool.false_eq_true, if_false]
  refine wpAny_bind (wpAny_pyIter_zip hz ?_)
  refine wpAny_bind (wpAny_holding (zp_hint hT ?_))
  refine wpAny_ite_split (fun _ => ?_) (fun hab => absurd (by simp) hab)
  refine wpAny_bind (wpAny_rule ?_)
  refine wpAny_bind ?_
  show wpAny _ _ (updateSeq S (·.push .none) >>= fun _ => updateSeq S (·.pop)) _ _ _
  refine wpAny_bind (wpAny_updateSeq hS rfl ?_)
  have hS₂ := Heap.get?_update_self (Obj.mapSeq (·.push Value.none)) hS rfl
  refine wpAny_updateSeq (hz := by seq_fits) hS₂ rfl ?_
  have hS₃ := Heap.get?_update_self (Obj.mapSeq (·.pop)) hS₂ rfl
  refine wpAny_pure ⟨plainId_quiet PySem.F.plain_extend_loop _, key _ _ _ (fun b o hb e => ?_) ?_ hS₃⟩
  · exact (Heap.get?_update_other _ _ (Ne.symm hb)).trans ((Heap.get?_update_other _ _ (Ne.symm hb)).trans e)
  · rw [Heap.size_update, Heap.size_update]; exact Nat.le_refl _
theorem ZpG.low {lo lo' : Addr} {h : Heap} {as : List Addr} (g : ZpG xs ys lo h as) (hl : lo' ≤ lo) : ZpG xs ys lo' h as := ⟨g.rise, fun a ha => Nat.lt_of_le_of_lt hl (g.above a ha), g.pairs⟩
/-- list(z), z a zip just made -/
theorem zp_call {Q : Value → Shared → Prop} (hh : A.handled = none) (D : ZipApart z TI TO i1 i2 l1 l2) (hn : xs.size ≤ sizeLine) (hl : ys.size = xs.size) (lt : z < s.heap.objs.size ∧ TI < s.heap.objs.size ∧ TO < s.heap.objs.size ∧ i1 < s.heap.objs.size ∧ i2 < s.heap.objs.size ∧ l1 < s.heap.objs.size ∧ l2 < s.heap.objs.size)
    (hTI : IsPair s.heap TI (.ref i1) (.ref i2)) (it1 : s.heap.IsListIter i1 l1 0) (it2 : s.heap.IsListIter i2 l2 0) (hl1 : s.heap.IsList l1 xs) (hl2 : s.heap.IsList l2 ys) (hz : IsZip s.heap z TI TO .none) {a b : Value} (hTO : IsPair s.heap TO a b)
    (hQ : ∀ h' tk acc c as, (∀ b o, b ≠ z → b ≠ TO → b ≠ i1 → b ≠ i2 → s.heap.get? b = some o → h'.get? b = some o) → h'.get? s.heap.objs.size = some { cls := .type "list", dict := none, data := .seq acc c, slots := #[] } → as.length = xs.size → ZpG xs ys s.heap.objs.size h' as →
      acc.toList = as.map Value.ref → Q (.ref s.heap.objs.size) { s with heap := h', toks := tk }) :
    wpAny (model prog w) A (call (.type "list") [.ref z]) Q E s := by
  obtain ⟨lz, lTI, lTO, li1, li2, ll1, ll2⟩ := lt
  refine callType_codes (Q₁ := fun obj s₁ => obj = .ref s.heap.objs.size ∧ s₁ = { s with heap := s.heap.push { cls := .type "list", data := .seq #[] } }) PySem.F.called_list (PySem.F.typeCall_list_1 _) PySem.F.entry_list_init
    (code_list_new _ ⟨rfl, rfl⟩) fun obj s₁ h₁ => ?_
  obtain ⟨rfl, rfl⟩ := h₁
  have hS : (s.heap.push { cls := .type "list", data := .seq #[] }).get? s.heap.objs.size = some { cls := .type "list", data := .seq #[] } := Heap.get?_push_size _ rfl
  refine ⟨⟨_, hS, rfl⟩, PySem.F.args_list_init_2 _ _, ?_⟩
  show wpAny _ _ (do let old ← Builtin.List.listItems (.ref s.heap.objs.size); Builtin.List.listUpdate (.ref s.heap.objs.size) (fun _ => #[]); letGo old.toList.reverse; Builtin.List.listExtendWith (.ref s.heap.objs.size) (.ref z) .none) _ _ _
  refine wpAny_bind ?_
  unfold Builtin.List.listItems
  refine wpAny_bind (wpAny_seqItems hS rfl (wpAny_pure ?_))
  show wpAny _ _ (updateSeq s.heap.objs.size (fun _ => #[]) >>= fun _ => letGo (#[] : Array Value).toList.reverse >>= fun _ => Builtin.List.listExtendWith (.ref s.heap.objs.size) (.ref z) .none) _ _ _
  refine wpAny_bind (wpAny_updateSeq hS rfl ?_)
  have hS₂ := Heap.get?_update_self (Obj.mapSeq (fun _ => (#[] : Array Value))) hS rfl
  have oth : ∀ b o, b ≠ s.heap.objs.size → s.heap.get? b = some o → ((s.heap.push { cls := .type "list", data := .seq #[] }).update s.heap.objs.size (Obj.mapSeq (fun _ => (#[] : Array Value)))).get? b = some o :=
    fun b o hb e => (Heap.get?_update_other _ _ (Ne.symm hb)).trans (Heap.get?_push_of_some _ e)
  have old : ∀ b o, s.heap.get? b = some o → ((s.heap.push { cls := .type "list", data := .seq #[] }).update s.heap.objs.size (Obj.mapSeq (fun _ => (#[] : Array Value)))).get? b = some o := fun b o e => oth b o (Nat.ne_of_lt (Heap.lt_size e)) e
  refine wpAny_bind (wpAny_letGo ?_)
  refine zp_extend (s := { s with heap := (s.heap.push { cls := .type "list", data := .seq #[] }).update s.heap.objs.size (Obj.mapSeq (fun _ => (#[] : Array Value))) }) (A := A.in1) (xs := xs) (ys := ys) (lo := s.heap.objs.size) hh D ⟨Nat.ne_of_gt lz, Nat.ne_of_gt lTI, Nat.ne_of_gt lTO, Nat.ne_of_gt li1, Nat.ne_of_gt li2, Nat.ne_of_gt ll1, Nat.ne_of_gt ll2⟩ hn hl .none
    ⟨Nat.le_refl _, Nat.le_of_lt lz, Nat.le_of_lt lTO, Nat.le_of_lt li1, Nat.le_of_lt li2⟩ (by show _ < ((s.heap.push _).update _ _).objs.size; rw [Heap.size_update, Heap.size_push]; exact Nat.lt_succ_self _)
    ⟨old _ _ hTI, it1.at fun o e => old _ o e, it2.at fun o e => old _ o e, hl1.at fun o e => old _ o e, hl2.at fun o e => old _ o e, .inl ⟨old _ _ hz, a, b, old _ _ hTO⟩⟩ (old _ _ hz) _ hS₂ (fun h' tk acc c as hk hS' hal hG hacc => ?_)
  exact ⟨rfl, hQ h' tk acc c as (fun b o b1 b2 b3 b4 e => hk b o (Nat.ne_of_lt (Heap.lt_size e)) b1 b2 b3 b4 (old b o e)) hS' hal hG hacc⟩
end
end PySem.W

namespace Zr
open PySem PySem.Spec PyProof.Rows L2
/-- the pairs tracked at their addresses -/
def putP : Hp → List Addr → List (V × V) → Hp
  | H, a :: as, p :: ps => putP (upd H a (.tup [p.1, p.2])) as ps
  | H, _, _ => H
theorem putP_off {b : Addr} : ∀ (as : List Addr) (ps : List (V × V)) (H : Hp), b ∉ as → putP H as ps b = H b
  | [], _, _, _ => rfl
  | _ :: _, [], _, _ => rfl
  | a :: as, p :: ps, H, h => by
    show putP (upd H a (.tup [p.1, p.2])) as ps b = H b
    rw [putP_off as ps _ (fun z => h (List.mem_cons_of_mem _ z)), upd_ne (fun z => h (by rw [z]; exact List.mem_cons_self))]
theorem putP_at : ∀ (as : List Addr) (ps : List (V × V)) (H : Hp), as.Nodup → ∀ (j : Nat) (a : Addr) (p : V × V), as[j]? = some a → ps[j]? = some p → putP H as ps a = some (.tup [p.1, p.2])
  | [], _, _, _, j, _, _, h, _ => by simp at h
  | _ :: _, [], _, _, j, _, _, _, h => by simp at h
  | a :: as, p :: ps, H, hn, 0, b, q, h1, h2 => by
    cases h1
    cases h2
    show putP (upd H a (.tup [p.1, p.2])) as ps a = some (.tup [p.1, p.2])
    rw [putP_off as ps _ (List.nodup_cons.mp hn).1, upd_same]
  | a :: as, p :: ps, H, hn, j + 1, b, q, h1, h2 => putP_at as ps _ (List.nodup_cons.mp hn).2 j b q (by simpa using h1) (by simpa using h2)
def rZipL (K : PySem.W.Frag) : List V → Hp → VK → Prop := fun vs H Q => ∃ (a b : Addr) (xs ys : List V), vs = [.ref a, .ref b] ∧ SqL K H a xs ∧ SqL K H b ys ∧ ys.length = xs.length ∧
  ∀ (H' : Hp) (p : Addr) (ts : List Addr), (∀ b o, H b = some o → H' b = some o) → H p = none → H' p = some (.lst (ts.map V.ref)) → ts.length = xs.length →
    (∀ (j : Nat) (t : Addr) (x y : V), ts[j]? = some t → xs[j]? = some x → ys[j]? = some y → H' t = some (.tup [x, y])) → (∀ t ∈ ts, H t = none) → Q (.ref p) H'
def tListZip (K : PySem.W.Frag) (ta : TA) : TE := fun σ H Q => ta σ H fun vs H1 => rZipL K vs H1 Q
theorem vals_refs' : ∀ as : List Addr, Vals (as.map V.ref) (as.map Value.ref)
  | [] => .nil
  | _ :: as => .cons rfl (vals_refs' as)
section
variable {X : Cx} {e1 e2 : Expr} {ta : TA} {p p2 pos pos2 : Pos}
theorem zip_laid {pins : List (Addr × Obj)} {σ : L2.St} {H : Hp} {s : Shared} {h' : Heap} {tk : Nat} {xs ys : List V} {us ws : List Value} {acc : Array Value} {c : Nat} {as : List Addr} {S : Addr} (I : Inv X pins σ H s) (hz : xs.length ≤ sizeLine) (hS0 : s.heap.objs.size ≤ S) (hy : ys.length = xs.length) (rx : Vals xs us) (ry : Vals ys ws)
    (hk : ∀ b o, s.heap.get? b = some o → h'.get? b = some o) (hS : h'.get? S = some { cls := .type "list", dict := none, data := .seq acc c, slots := #[] }) (hl : as.length = us.length) (hG : PySem.W.ZpG us.toArray ws.toArray S h' as) (hacc : acc.toList = as.map Value.ref) :
    ∃ H' : Hp, (∀ b o, H b = some o → H' b = some o) ∧ H S = none ∧ H' S = some (.lst (as.map V.ref)) ∧ (∀ (j : Nat) (t : Addr) (x y : V), as[j]? = some t → xs[j]? = some x → ys[j]? = some y → H' t = some (.tup [x, y])) ∧ (∀ t ∈ as, H t = none) ∧ Inv X pins σ H' { s with heap := h', toks := tk } := by
  have lk : xs.length = us.length := Paired.length rx
  have ly : ys.length = ws.length := Paired.length ry
  have hSn : S ∉ as := fun z => Nat.lt_irrefl _ (hG.above _ z)
  have nd : as.Nodup := List.Pairwise.imp (fun {a b} (h : a < b) => Nat.ne_of_lt h) hG.rise
  have new : ∀ t ∈ as, H t = none := fun t ht => I.hok.fresh (Nat.le_trans hS0 (Nat.le_of_lt (hG.above t ht)))
  have newS : H S = none := I.hok.fresh hS0
  have atP := putP_at as (xs.zip ys) (upd H S (.lst (as.map V.ref))) nd
  have off : ∀ b, b ∉ as → b ≠ S → putP (upd H S (.lst (as.map V.ref))) as (xs.zip ys) b = H b := fun b h1 h2 => by rw [putP_off as _ _ h1, upd_ne h2]
  have low : ∀ b o, s.heap.get? b = some o → b ∉ as ∧ b ≠ S := fun b o e => ⟨fun z => absurd (Heap.lt_size e) (Nat.not_lt.mpr (Nat.le_trans hS0 (Nat.le_of_lt (hG.above b z)))), Nat.ne_of_lt (Nat.lt_of_lt_of_le (Heap.lt_size e) hS0)⟩
  have kp : ∀ b u, H b = some u → (putP (upd H S (.lst (as.map V.ref))) as (xs.zip ys)) b = some u := fun b u e => by
    rw [off b (fun z => by rw [new b z] at e; cases e) (fun z => by rw [z, newS] at e; cases e)]
    exact e
  have eS : putP (upd H S (.lst (as.map V.ref))) as (xs.zip ys) S = some (.lst (as.map V.ref)) := by rw [putP_off as _ _ hSn, upd_same]
  refine ⟨putP (upd H S (.lst (as.map V.ref))) as (xs.zip ys), kp, newS, eS, fun j t x y e1 e2 e3 => atP j t (x, y) e1 (by rw [List.getElem?_zip_eq_some]; exact ⟨e2, e3⟩), new, ?_⟩
  refine I.call' (ch := []) rfl ⟨fun b o q _ _ _ => hk b o q, fun b o q _ _ _ => ⟨o.slots, hk b o q⟩, fun b o q n _ => ?_, fun b o q _ => ⟨o, hk b o q⟩, fun b xs q => kp b _ q, fun b o u q => kp b _ q, fun b ps q => ⟨#[], by rw [kp b _ q]; simp⟩⟩ (fun b u q => ?_) I.bare fun b z => by simp at z
  · obtain ⟨z1, z2⟩ := low b o q
    rw [off b z1 z2]
    exact n
  · by_cases hb : b ∈ as
    · obtain ⟨j, e1⟩ := List.mem_iff_getElem?.mp hb
      obtain ⟨x', y', f1, f2, f3⟩ := hG.pairs j b e1
      have hj : j < as.length := (List.getElem?_eq_some_iff.mp e1).1
      have jx : j < xs.length := by omega
      have jy : j < ys.length := by omega
      have ex : xs[j]? = some xs[j] := List.getElem?_eq_getElem jx
      have ey : ys[j]? = some ys[j] := List.getElem?_eq_getElem jy
      obtain ⟨u1, g1, r1⟩ := rx.get ex
      obtain ⟨u2, g2, r2⟩ := ry.get ey
      have f1' : us[j]? = some x' := by simpa using f1
      have f2' : ws[j]? = some y' := by simpa using f2
      rw [f1'] at g1
      rw [f2'] at g2
      cases g1
      cases g2
      have e3 := atP j b (xs[j], ys[j]) e1 (by rw [List.getElem?_zip_eq_some]; exact ⟨ex, ey⟩)
      rw [e3] at q
      cases q
      exact ⟨by show 2 ≤ sizeLine; decide, [x', y'], .cons r1 (.cons r2 .nil), ⟨_, f3, rfl, _, rfl⟩⟩
    · by_cases hb2 : b = S
      · rw [hb2] at q ⊢
        rw [eS] at q
        cases q
        refine ⟨by rw [List.length_map]; omega, acc.toList, c, by rw [hacc]; exact vals_refs' as, ?_⟩
        rw [Array.toArray_toList]
        exact hS
      · rw [off b hb hb2] at q
        exact (I.hok b u q).stay (fun d v _ y => hk d v y) (fun d y => kp d _ y) fun d xs y => kp d _ y
/-- list(zip(e1, e2)), two lists of one length -/
theorem pe_listZip (hc : X.calm = true) (hg : Gl X "list") (hm : X.mg "list" = none) (hg2 : Gl X "zip") (hm2 : X.mg "zip" = none) (hv2 : bootBuiltins "zip" = some (.type "zip")) (hv : bootBuiltins "list" = some (.type "list")) (ha : PA X [e1, e2] ta)
    (hs : starEach [.Call (.Name "zip" p2) [e1, e2] [] pos2] X.env = (false, eval (.Call (.Name "zip" p2) [e1, e2] [] pos2) X.env) :: starEach [] X.env := by rfl)
    (hs2 : starEach [e1, e2] X.env = [(false, eval e1 X.env), (false, eval e2 X.env)] := by rfl) (hs3 : starEach [e2] X.env = [(false, eval e2 X.env)] := by rfl) :
    PE X (.Call (.Name "list" p) [.Call (.Name "zip" p2) [e1, e2] [] pos2] [] pos) (tListZip X.K ta) := by
  refine ⟨fun pins s σ H Q I hq => ?_⟩
  refine Call_ (ld_blt I hg hm hv ?_)
  refine PyProof.Rows.callWith_type1 (PyProof.Rows.args_cons ?_ hs) hs rfl
  refine Call_ (ld_blt I hg2 hm2 hv2 ?_)
  refine PyProof.Rows.callWith_type1 (thn (ha.run pos2 pins s σ H _ I hq) fun vs s1 ⟨ws0, H1, I1, r1, a, b, xs, ys, ex, ha, hb, hl, q⟩ => ?_) (by rw [hs2, hs3]) (by rw [hs3]; rfl)
  subst ex
  obtain ⟨u1, u2, rfl, ra, rb⟩ : ∃ u1 u2, vs = [u1, u2] ∧ RelV (.ref a) u1 ∧ RelV (.ref b) u2 := by
    cases r1 with
    | cons p q =>
      cases q with
      | cons p' q' =>
        cases q'
        exact ⟨_, _, rfl, p, p'⟩
  cases ra
  cases rb
  obtain ⟨us, rx, pl1, z1⟩ := I1.list ha
  obtain ⟨ws, ry, pl2, z2⟩ := I1.list hb
  refine call_zip_2 pl1.isList pl2.isList fun h1 b1 b2 b3 b4 b5 bz bk => ?_
  refine PyProof.Rows.args_nil ?_
  have lx : xs.length = us.length := Paired.length rx
  have ly : ys.length = ws.length := Paired.length ry
  have la : a < s1.heap.objs.size := by obtain ⟨o, e, _⟩ := pl1.isList; exact Heap.lt_size e
  have lb : b < s1.heap.objs.size := by obtain ⟨o, e, _⟩ := pl2.isList; exact Heap.lt_size e
  have dj : ∀ {m n : Nat}, m ≠ n → s1.heap.objs.size + m ≠ s1.heap.objs.size + n := fun h z => h (Nat.add_left_cancel z)
  have da : ∀ {m : Nat} {c : Addr}, c < s1.heap.objs.size → c ≠ s1.heap.objs.size + m := fun h => Nat.ne_of_lt (Nat.lt_of_lt_of_le h (Nat.le_add_right _ _))
  have D : ZipApart (s1.heap.objs.size + 4) (s1.heap.objs.size + 2) (s1.heap.objs.size + 3) s1.heap.objs.size (s1.heap.objs.size + 1) a b :=
    ⟨dj (by decide), dj (by decide), dj (m := 0) (by decide), dj (by decide), dj (by decide), dj (n := 0) (by decide), dj (by decide), dj (n := 0) (by decide), dj (by decide), dj (m := 0) (by decide),
      da la, da la, da (m := 0) la, da la, da lb, da lb, da (m := 0) lb, da lb⟩
  have lt : ∀ {m : Nat}, m < 5 → s1.heap.objs.size + m < h1.objs.size := fun h => by rw [bz]; exact Nat.add_lt_add_left h _
  refine PySem.W.zp_call (s := { s1 with heap := h1 }) (xs := us.toArray) (ys := ws.toArray) (I1.ok.hd hc) D (by rw [List.size_toArray]; omega) (by rw [List.size_toArray, List.size_toArray]; omega)
    ⟨lt (by decide), lt (by decide), lt (by decide), lt (m := 0) (by decide), lt (by decide), Nat.lt_trans la (lt (m := 0) (by decide)), Nat.lt_trans lb (lt (m := 0) (by decide))⟩
    b2 b4 b5 (pl1.isList.at fun o e => bk _ o e) (pl2.isList.at fun o e => bk _ o e) b1 b3 fun h' tk acc c as hk hS hal hG hacc => ?_
  have old : ∀ b o, s1.heap.get? b = some o → h'.get? b = some o := fun b o e => hk b o (da (Heap.lt_size e)) (da (Heap.lt_size e)) (da (m := 0) (Heap.lt_size e)) (da (Heap.lt_size e)) (bk b o e)
  obtain ⟨H', k1, k2, k3, k4, k5, J⟩ := zip_laid (tk := tk) I1 z1 (by show s1.heap.objs.size ≤ h1.objs.size; rw [bz]; exact Nat.le_add_right _ _) hl rx ry old hS (by rw [hal, List.size_toArray]) hG hacc
  exact ⟨.ref _, H', J, rfl, q H' _ as k1 k2 k3 (by rw [hal, List.size_toArray, lx]) k4 k5⟩
end
end Zr
end
section
set_option maxRecDepth 100000
set_option maxHeartbeats 2000000
/-! Small rules over the layer: len(set(..)) with repeats, a written dict with whole numbers as keys, an own exception made (its context None). -/
namespace Zr
open PySem PySem.Spec PyProof.Rows L2
/-! ### len(set(xs)) -/
def distinct (ns : List Int) : Nat := (PyProof.Rows.firstMet (fun i => ns.getD i 0) ns.length).length
def tLenSetD (K : PySem.W.Frag) (ta : TE) : TE := fun σ H Q => ta σ H fun x H1 => ∃ (l : Addr) (ns : List Int), x = .ref l ∧ SqL K H1 l (ns.map V.int) ∧ ns.length ≤ 4000 ∧ Q (.int (distinct ns : Nat)) H1
theorem intsAre_vals : ∀ {ns : List Int} {us : List Value}, Vals (ns.map V.int) us → PyProof.Rows.IntsAre us ns
  | [], _, .nil => .nil
  | n :: ns, _, .cons r t => by
    obtain ⟨k, rfl⟩ := r
    exact .cons n k (intsAre_vals t)
theorem pe_lenSetD {X : Cx} {a : Expr} {ta : TE} {p p2 q pos : Pos} (hg : Gl X "len") (hm : X.mg "len" = none) (hg2 : Gl X "set") (hm2 : X.mg "set" = none) (ha : PE X a ta) (hc : X.calm = true := by rfl)
    (na : starEach [a] X.env = (false, eval a X.env) :: starEach [] X.env := by rfl) : PE X (.Call (.Name "len" p) [.Call (.Name "set" p2) [a] [] q] [] pos) (tLenSetD X.K ta) := by
  refine ⟨fun pins s σ H Q I h => ?_⟩
  refine Call_ (ld_blt I hg hm boot_len ?_)
  refine PyProof.Rows.callWith_builtin1 (PyProof.Rows.args_cons ?_ rfl) rfl rfl
  refine Call_ (ld_blt I hg2 hm2 boot_set ?_)
  refine PyProof.Rows.callWith_type1 (PyProof.Rows.args_cons (thn (ha.run pins s σ H _ I h) fun v s1 ⟨x, H1, I1, r1, q1⟩ => PyProof.Rows.args_nil ?_) na) na rfl
  obtain ⟨l, ns, rfl, hq, hl, q1⟩ := q1
  cases r1
  obtain ⟨its, r, pl, hz⟩ := I1.list hq
  have hlen : its.toArray.size = ns.length := by rw [List.size_toArray, ← r.length, List.length_map]
  refine call_set_list (I1.ok.hd hc) pl.isList (by simpa using intsAre_vals r) (by rw [hlen]; unfold scanBound; omega) fun h' tk hS hk => ?_
  refine PyProof.Rows.args_nil ?_
  rw [hlen] at hS
  have hd := PyProof.Rows.firstMet_length_le (fun i => ns.getD i 0) ns.length
  obtain ⟨o, es, ep, t, ho, hex, hd', _, _, _, hf, hn⟩ := hS
  have I2 : Inv X pins σ H1 { s1 with heap := h', toks := tk } := I1.kept fun b o e => hk b o (Heap.lt_size e) e
  exact call_len_set ho hex hd' hf (by rw [hn] <;> omega) ⟨.int (distinct ns : Nat), H1, I2.tok _, ⟨_, by rw [hn]; rfl⟩, q1⟩
/-! ### d[i], d a written dict whose keys are whole numbers -/
def ieOk (e : DictEntry) : Bool := match e.key with
  | .int k _ => decide (e.hash = hashInt k)
  | _ => false
def KInt (K : PySem.W.Frag) (d : Addr) (es : Array DictEntry) : Prop := (∃ n, K.lookup d = some { cls := .type "dict", data := .dict es n }) ∧ es.toList.all ieOk = true
def rIxI (K : PySem.W.Frag) : R2 := fun x y H Q => ∃ (p : Addr) (i : Int) (es : Array DictEntry) (u : Value) (v : V), x = .ref p ∧ y = .int i ∧ KInt K p es ∧ findBy Value.isInt es i = some u ∧ RelV v u ∧ Q v H
theorem kint_map {P : Program} {w : World} {K : PySem.W.Frag} {h : Heap} {d : Addr} {es : Array DictEntry} (X : K.In h) (k : KInt K d es) : h.MapOf (intKind P w) d (findBy Value.isInt es) := by
  obtain ⟨⟨n, hl⟩, ha⟩ := k
  refine ⟨_, es, n, X _ _ hl, ⟨rfl, rfl, rfl⟩, rfl, fun e he => ?_, fun _ => rfl⟩
  have q := List.all_eq_true.mp ha e (by simpa using he)
  unfold ieOk at q
  split at q
  · rename_i k t hk
    refine ⟨k, ?_, of_decide_eq_true q⟩
    show Value.isInt k e.key = true
    rw [hk]
    simp [Value.isInt]
  · cases q
theorem ix_kint {X : Cx} : IxR X (rIxI X.K) := by
  intro value slice pins s σ H x y v u Q I rx ry h hs
  obtain ⟨p, i, es, u0, r, rfl, rfl, hk, e, ru, q⟩ := h
  obtain rfl : v = Value.ref p := rx
  obtain ⟨t, rfl⟩ := ry
  have hm := kint_map (P := X.prog) (w := X.w) I.kIn hk
  exact tail_any hm.typeIs slot_dict_getitem.lookup (wpAny_getItem_of (knd := intKind X.prog X.w) (k := i) (by show Value.isInt i (.int i t) = true; simp [Value.isInt]) hm e ⟨r, H, I.tok _, ru, q⟩) hs

/-! ### C(e, ..), C an own exception with an __init__ of its own; its context is None -/
theorem pmk_oexN {X : Cx} {e : Expr} {es : List Expr} {ta : TA} {p pos : Pos} {CX : CXT} {x : Str} {C fI : Addr} {k : Nat} {fd : FuncData} {ps : List Str} {sp : Sp} (T : OexC X.K C) (iC : PySem.W.findIn X.K (.ref C) "__init__" = some (some (.ref fI))) (tI : PySem.W.typeIn X.K (.ref fI) = some (.type "function"))
    (F1 : FnOk X.prog X.w X.K X.mg X.base CX k fI fd ps sp) (hr : Room (k + 1) X.A) (hb : Binds X.K fd ps []) (hx : Passes CX X (fun _ _ _ => False)) (hg : Gl X x) (hm : X.mg x = some (.ref C)) (ha : PA X (e :: es) ta)
    (hdb : (x == ("__debug__" : Str)) = false := by decide) (he : starEach (e :: es) X.env = (false, eval e X.env) :: starEach es X.env := by rfl) (hpl : (backTo pos (starEach es X.env)).any (·.1) = false := by rfl) :
    L2N.PMk X (.Call (.Name x p) (e :: es) [] pos) (tMkO C sp [] ta) := by
  intro pins s σ H Q I h
  obtain ⟨nm, q, N, bs, bm, sn, sub, ab, col, dd, k0, k1, k2, k3, k5, hC, hbm⟩ := T.cls
  refine wpAny_Call_Name_kw (ld_glob I hg hm ?_ hdb)
  refine PySem.W.callWith_K (h₀ := X.base) I.ok.mod.kin T.kC (thn (ha.run pos pins s σ H _ I h) fun us s1 ⟨vs, H1, I1, r1, hz, q1⟩ => ⟨I1.kIn, ?_⟩) he hpl
  show wpAny _ _ (call (.ref C) us) _ _ _
  obtain ⟨hp, g, dr, tk, os⟩ := s1
  have hsz : hp.objs.size ≤ hp.objs.size + 1 := Nat.le_succ _
  have hn : H1 (hp.objs.size + 1) = none := I1.hok.fresh hsz
  have hq := q1 (hp.objs.size + 1) hn
  rw [List.append_nil] at hq
  have kk : ∀ b o, hp.get? b = some o → ((hp.push (PySem.W.kdv_tup us)).push (PySem.HandSPX.excO C hp.objs.size)).get? b = some o := fun b o e => Heap.get?_push_of_some _ (Heap.get?_push_of_some _ e)
  have hget : ((hp.push (PySem.W.kdv_tup us)).push (PySem.HandSPX.excO C hp.objs.size)).get? (hp.objs.size + 1) = some (PySem.HandSPX.excO C hp.objs.size) := by heap_get
  have I2 : Inv X pins σ (upd H1 (hp.objs.size + 1) (exo (hp.objs.size + 1) C none)) ⟨(hp.push (PySem.W.kdv_tup us)).push (PySem.HandSPX.excO C hp.objs.size), g, dr, tk, os⟩ :=
    I1.laid (t' := tk) (a := hp.objs.size + 1) (o := exo (hp.objs.size + 1) C none) (h' := (hp.push (PySem.W.kdv_tup us)).push (PySem.HandSPX.excO C hp.objs.size)) kk hsz (exo_ok hget)
  have r2 : Vals (V.ref (hp.objs.size + 1) :: vs) (Value.ref (hp.objs.size + 1) :: us) := .cons rfl r1
  have hl : (Value.ref (hp.objs.size + 1) :: us ++ []).length = ps.length := by
    have e := r2.length
    rw [F1.len _ _ _ _ hq] at e
    rw [List.append_nil]
    exact e.symm
  have hus : us.length ≤ sizeLine := by
    rw [← Paired.length r1, sizeLine_eq]
    omega
  have b2 := hb _ (Value.ref (hp.objs.size + 1) :: us) I2.kIn hl
  rw [List.append_nil] at b2
  refine wpAny_call (PySem.HandSPX.call_own F.excBase_ValueError (fun Y => PySem.HandSPX.refsVE_contains Y bm hbm) (I1.kIn _ _ hC) (PySem.W.looks_findIn I1.kIn iC) (fun self => PySem.W.bind_fn I1.kIn self tI) hus
    (codeAny_mono (F1.run _ X.stack _ _ ⟨Value.ref (hp.objs.size + 1) :: us, []⟩ (Value.ref (hp.objs.size + 1) :: us) _ _ (fun _ _ _ => False) (hr.make C us []) (I2.env0.make C us []) b2 r2 hq) fun r s' hq' => ?_))
  cases r with
  | error er => exact hx pins σ _ _ er s' I2 hq'
  | ok fl =>
    cases fl with
    | ret u =>
      obtain ⟨v, H2, os2, bare2, un2, hok2, rv, ev, d, fs, ea, ed, hd1, q2⟩ := hq'
      subst ev
      obtain ⟨h2, g2, d2, t2, os'⟩ := s'
      obtain ⟨t0, G, J, kG, ge, hoe, na⟩ := mk_end0 (d2 := d2) (t2 := t2) I1 hsz kk un2 hok2 os2 bare2 ea ed hd1
      refine ⟨rv, hp.objs.size + 1, _, _, ⟨G, g2, d2, t2, os'⟩, _, .ref C, some d, rfl, J, kG, ge, hoe, ⟨rfl, rfl, fun vs hv => ?_⟩, rfl, rfl, na, rfl, bare2, raises_own T.exC T.tyC, q2⟩
      cases hv
      rfl
    | next => exact False.elim hq'
    | brk => exact False.elim hq'
    | cont => exact False.elim hq'
end Zr
end
section
set_option maxRecDepth 100000
set_option maxHeartbeats 4000000
/-! Rules over the layer: a tuple times a whole number, 1 and up. -/
namespace Zr
open PySem PySem.Spec PyProof.Rows L2
theorem tuple_mulW1 (l : Addr) (items : Array Value) (n : Nat) (dd : Option Addr) (sl : Array (Option Value)) (x : Int) (u : Tok) (c0 : (decide (x < -(2 ^ 63)) || decide (x ≥ 2 ^ 63)) = false) (c1 : (items.isEmpty || x == 1) = true) :
    Meets (Builtin.«tuple.__mul__» ⟨[.ref l, .int x u], []⟩) (fun _ R s => s.heap.get? l = some { cls := .type "tuple", dict := dd, data := .seq items n, slots := sl } ∧
      R (.ok (.ret (Value.ref l))) s) :=
  .of_wp fun prog w A R s h => by
    obtain ⟨hp, g, d, tk, os⟩ := s
    obtain ⟨hl, h⟩ := h
    have f1 := AutoSeq1.idx_int
    wp_walk using wpAny_loadPart' hl
    repeat (first
      | (refine wpAny_ite_false (decide_eq_false (by rw [c0]; exact Bool.false_ne_true)) ?_; wp_walk using wpAny_loadPart' hl)
      | (refine wpAny_ite_true (decide_eq_true (by rw [c1])) ?_; wp_walk using wpAny_loadPart' hl))
    exact ⟨_, rfl, h⟩
def rRepT1 (K : PySem.W.Frag) : R2 := fun x y H Q => ∃ l k xs, x = .ref l ∧ y = .int k ∧ SqT K H l xs ∧ xs ≠ [] ∧ 1 ≤ k ∧ k ≤ 1000 ∧ xs.length ≤ 1000 ∧ (k = 1 → Q (.ref l) H) ∧ (2 ≤ k → ∀ p, H p = none → Q (.ref p) (upd H p (.tup (List.replicate k.toNat xs).flatten)))
section
variable {X : Cx}
theorem op_repT1 : OpR X (binaryOp .Mult) (rRepT1 X.K) := by
  intro pins s σ H x y v u Q I rx ry h
  obtain ⟨l, k, xs, rfl, rfl, hT, hne, h1, h2, hz, q1, q2⟩ := h
  by_cases hk : 2 ≤ k
  · exact op_repT pins s σ H _ _ v u Q I rx ry ⟨l, k, xs, rfl, rfl, hT, hne, hk, h2, hz, q2 hk⟩
  have hk1 : k = 1 := by omega
  subst hk1
  cases rx
  obtain ⟨t, rfl⟩ := ry
  obtain ⟨its, r, ⟨⟨cls, dd, data, sl⟩, ho, hc, n, hd⟩, hs⟩ := I.tuple hT
  simp only at hc hd
  subst hc hd
  exact wpAny_binaryOp_repeat_ref (T := "tuple") (U := "int") (by decide) ⟨_, ho, rfl⟩ (fun s' => typeIs_int s' 1 t) noFill_tuple_mul F.fills_int_mul F.slot_int_rmul repeat_tuple F.slot_int_index.lookup
    (call_meets F.slot_int_rmul (typeIs_int s 1 t) F.entry_int_rmul (F.args_int_rmul_2 _ _) (int_rmul_tuple 1 t l its.toArray n dd sl)
      ⟨ho, rfl, ⟨_, ho, rfl⟩, call_meets F.slot_tuple_mul ⟨_, ho, rfl⟩ F.entry_tuple_mul (F.args_tuple_mul_2 _ _) (tuple_mulW1 l its.toArray n dd sl 1 t (by decide) (by simp)) ⟨ho, .ref l, H, I, rfl, q1 rfl⟩⟩)
end
end Zr
end
section
set_option maxRecDepth 100000
set_option maxHeartbeats 2000000
/-! Defs that are called both where nothing is handled and within an except suite: comprehensions, calls and makings in either. -/
namespace Zr
open PySem PySem.Spec PyProof.Rows L2 L2H HotX

/-! ### the end of a text's walk while an exception is handled -/
section
variable {prog : Program} {w : World} {A : Around} {E : Value → Shared → Prop} {s : Shared}
theorem stop_hot {A1 : Around} {x1 : Addr} {Q : Option Value → Shared → Prop} (hot : HotAt A1 x1 s.heap) (hQ : ∀ h', (∀ b o, s.heap.get? b = some o → h'.get? b = some o) → Q none { s with heap := h' })
    {F : Fin → Shared → Prop} :
    wpAny (model prog w) A1 (newExc (.type "StopIteration") [] >>= fun e => (raiseNew e : Sem Fin)) F
      (fun e s' => wpAny (model prog w) A (isInstance e (.type "StopIteration")) (fun b s'' => b = true ∧ Q none s'') E s') s := by
  obtain ⟨hh, o1, vs1, h1, d1, c1⟩ := hot
  refine wpAny_bind ?_
  simp only [newExc, newTuple]
  refine wpAny_bind (wpAny_newObj_type ?_ (by size_fits))
  refine wpAny_bind (m := firstArgMember _ _) (wpAny_of_eq (a := Value.none) (by first | rfl | (simp only [firstArgMember]; rfl)) ?_)
  refine wpAny_newObj_type ?_ (by size_fits)
  refine raiseNew_hot ⟨hh, o1, vs1, Heap.get?_push_of_some _ (Heap.get?_push_of_some _ h1), d1, c1⟩ (Nat.ne_of_lt (Heap.lt_size (Heap.get?_push_of_some _ h1))) (Heap.get?_push_size _ rfl) rfl (by first | (simp; done) | (simp; omega) | (simp only [Array.size_append]; simp; omega)) ?_
  refine wpAny_isInstance (T := "StopIteration") (b := true) ⟨_, Heap.get?_update_self _ (Heap.get?_push_size _ rfl) rfl, rfl⟩ isSubtype_stop ⟨rfl, hQ _ fun b o e => ?_⟩
  rw [Heap.get?_update_other _ _ (Nat.ne_of_gt (Heap.lt_size (Heap.get?_push_of_some _ e)))]
  exact Heap.get?_push_of_some _ (Heap.get?_push_of_some _ e)
theorem str_end_ne {it x1 : Addr} {o o1 : Obj} {vs1 : Array Value} {x : Str} {t : Tok} {i : Int} (ho : s.heap.get? it = some o) (hd : o.data = .fields #[.str x t, .int i 0]) (h1 : s.heap.get? x1 = some o1) (d1 : o1.data = .fields vs1) (c1 : vs1[2]? = some .none) : x1 ≠ it := by
  rintro rfl
  rw [ho] at h1
  cases h1
  rw [hd] at d1
  injection d1 with d1
  subst d1
  simp at c1
theorem next_ascii_end_hot {it x1 : Addr} {x : Str} {t : Tok} {i : Nat} {Q : Option Value → Shared → Prop} (hot : HotAt A x1 s.heap)
    (hit : s.heap.IsStrIter it "str_ascii_iterator" x t i) (hx : x.cps[i]? = none)
    (hQ : ∀ h', Heap.ExtBut it s.heap h' → Q none { s with heap := h' }) : wpAny (model prog w) A (pyNext (.ref it)) Q E s := by
  obtain ⟨o, ho, hc, hd⟩ := id hit
  obtain ⟨hh, o1, vs1, h1, d1, c1⟩ := hot
  have hne := str_end_ne ho hd h1 d1 c1
  unfold pyNext
  refine wpAny_bind (wpAny_attempt (wpAny_callSpecial?_slot (name := Str.ofString "__next__") hit.typeIs F.slot_str_ascii_iterator_next
    (wpAny_call_entry F.slot_str_ascii_iterator_next hit.typeIs F.entry_str_ascii_iterator_next ?_ (F.args_str_ascii_iterator_next_1 _))))
  show wpAny _ _ (field (.ref it) 0 >>= _) _ _ s
  refine wpAny_bind (wpAny_field ho hd (x := .str x t) rfl ?_)
  show wpAny _ _ (field (.ref it) 1 >>= _) _ _ s
  refine wpAny_bind (wpAny_field ho hd (x := .int i 0) rfl ?_)
  simp only [Int.toNat_natCast, hx]
  refine wpAny_bind (wpAny_rule (wpAny_bind (wpAny_setField ho hd (by simp) (wpAny_bind (wpAny_letGo ?_)))))
  have hs := Heap.SameBut.update s.heap it (Obj.mapFields (·.setIfInBounds 0 .none))
  refine wpAny_mono (stop_hot (A := A) (A1 := A.in1) (s := { s with heap := s.heap.update it (Obj.mapFields (·.setIfInBounds 0 .none)) }) (Q := fun r s' => r = none ∧ Q none s') (E := E) ⟨(show A.in1.handled = _ from hh), o1, vs1, (hs.2 x1 hne).trans h1, d1, c1⟩ (fun h' hk => ⟨rfl, hQ h' fun b o hb e => hk b o ((hs.2 b hb).trans e)⟩)) (fun _ _ h => h) fun e s' h => ?_
  exact wpAny_bind (wpAny_mono h (fun b s'' ⟨eb, _, q⟩ => by subst eb; exact wpAny_pure q) fun _ _ h => h)
theorem next_wide_end_hot {it x1 : Addr} {x : Str} {t : Tok} {i : Nat} {Q : Option Value → Shared → Prop} (hot : HotAt A x1 s.heap)
    (hit : s.heap.IsStrIter it "str_iterator" x t i) (hx : x.cps[i]? = none)
    (hQ : ∀ h', Heap.ExtBut it s.heap h' → Q none { s with heap := h' }) : wpAny (model prog w) A (pyNext (.ref it)) Q E s := by
  obtain ⟨o, ho, hc, hd⟩ := id hit
  obtain ⟨hh, o1, vs1, h1, d1, c1⟩ := hot
  have hne := str_end_ne ho hd h1 d1 c1
  unfold pyNext
  refine wpAny_bind (wpAny_attempt (wpAny_callSpecial?_slot (name := Str.ofString "__next__") hit.typeIs F.slot_str_iterator_next
    (wpAny_call_entry F.slot_str_iterator_next hit.typeIs F.entry_str_iterator_next ?_ (F.args_str_iterator_next_1 _))))
  show wpAny _ _ (field (.ref it) 0 >>= _) _ _ s
  refine wpAny_bind (wpAny_field ho hd (x := .str x t) rfl ?_)
  show wpAny _ _ (field (.ref it) 1 >>= _) _ _ s
  refine wpAny_bind (wpAny_field ho hd (x := .int i 0) rfl ?_)
  simp only [Int.toNat_natCast, hx]
  refine wpAny_bind (wpAny_rule (wpAny_bind (wpAny_setField ho hd (by simp) (wpAny_bind (wpAny_letGo ?_)))))
  have hs := Heap.SameBut.update s.heap it (Obj.mapFields (·.setIfInBounds 0 .none))
  refine wpAny_mono (stop_hot (A := A) (A1 := A.in1) (s := { s with heap := s.heap.update it (Obj.mapFields (·.setIfInBounds 0 .none)) }) (Q := fun r s' => r = none ∧ Q none s') (E := E) ⟨(show A.in1.handled = _ from hh), o1, vs1, (hs.2 x1 hne).trans h1, d1, c1⟩ (fun h' hk => ⟨rfl, hQ h' fun b o hb e => hk b o ((hs.2 b hb).trans e)⟩)) (fun _ _ h => h) fun e s' h => ?_
  exact wpAny_bind (wpAny_mono h (fun b s'' ⟨eb, _, q⟩ => by subst eb; exact wpAny_pure q) fun _ _ h => h)
end
theorem turn_strH {P : Program} {w : World} {K : PySem.W.Frag} {tg : Expr} (it : Addr) (x : Str) (t : Tok) (ty : String) (hty : ty = "str_ascii_iterator" ∨ ty = "str_iterator") :
    TurnH P w K tg (Its x) [it] it (fun i h => h.IsStrIter it ty x t i) where
  mem := by simp
  obj := (turn_str (P := P) (w := w) (K := K) (tg := tg) it x t ty hty).obj
  keep := (turn_str (P := P) (w := w) (K := K) (tg := tg) it x t ty hty).keep
  item := by
    intro X hP hw hK hc i pins s σ H E I hf st hg
    subst hP hw hK
    obtain ⟨f0, f1, f2, f3, f4, f5⟩ := hf it (by simp)
    have hno : ["enumerate", "zip", "dict_itemiterator", "dict_reverseitemiterator", "odict_iterator", "itertools.zip_longest", "itertools.pairwise"].contains ty = false := by
      rcases hty with e | e
      · rw [e]; decide
      · rw [e]; decide
    have hlt : i < x.cps.size := hg
    have hcx : x.cps[i]? = some x.cps[i] := Array.getElem?_eq_getElem hlt
    have fin : ∀ (h' : Heap), h'.IsStrIter it ty x t (i + 1) → Heap.SameBut it s.heap h' → ∃ u, some (Value.str ⟨#[x.cps[i]]⟩ s.toks) = some u ∧
        wpAny (model X.prog X.w) X.A (letOwnedTupleGo tg (.ref it) u) (fun _ s2 => ∃ y H', Inv X pins σ H' s2 ∧ RelV y u ∧ (Its x).yld i H y H' ∧ s2.heap.IsStrIter it ty x t (i + 1) ∧ ∀ b ∈ [it], H' b = none) E { s with heap := h', toks := s.toks + 1 } := fun h' st' sb => by
      have I1 : Inv X pins σ H { s with heap := h', toks := s.toks + 1 } := I.turned (fun b o hb e => (sb.2 b hb).trans e) f0 f1 f3 f4 f5
      obtain ⟨oi, e, cc, dd⟩ := id st'
      exact ⟨_, rfl, go_of (s := { s with heap := h', toks := s.toks + 1 }) e cc dd hno ⟨.str ⟨#[x.cps[i]]⟩, H, I1, ⟨_, rfl⟩, ⟨rfl, _, hcx, rfl⟩, st', fun b hb => (hf b hb).1⟩⟩
    rcases hty with e | e
    · subst e
      exact wpAny_pyNext_ascii_item st hcx fun h' st' sb => fin h' st' sb
    · subst e
      exact wpAny_pyNext_wide_item st hcx fun h' st' sb => fin h' st' sb
  done := by
    intro X hP hw hK hc i pins s σ H E I hf st hg
    subst hP hw hK
    obtain ⟨f0, f1, f2, f3, f4, f5⟩ := hf it (by simp)
    obtain ⟨x1, hot⟩ := hc.at I
    have hx : x.cps[i]? = none := Array.getElem?_eq_none hg
    rcases hty with e | e
    · rw [e] at st
      exact next_ascii_end_hot hot st hx fun h' eb => ⟨rfl, I.turned (t' := s.toks) (fun b o hb e => eb b o hb e) f0 f1 f3 f4 f5⟩
    · rw [e] at st
      exact next_wide_end_hot hot st hx fun h' eb => ⟨rfl, I.turned (t' := s.toks) (fun b o hb e => eb b o hb e) f0 f1 f3 f4 f5⟩
  self := (turn_str (P := P) (w := w) (K := K) (tg := tg) it x t ty hty).self

/-! ### warm: calm, or the handled exception is borne -/
def Warm (X : Cx) : Prop := X.calm = true ∨ HotC X
structure TurnW (P : Program) (w : World) (K : PySem.W.Frag) (tg : Expr) (J : It) (fp : List Addr) (it : Addr) (tn : Nat → Heap → Prop) : Prop where
  c : Turn P w K tg J fp it tn
  h : TurnH P w K tg J fp it tn
def PIEW (X : Cx) (pins : List (Addr × Obj)) (σ : L2.St) (tg : Expr) (R : It → Hp → Prop) (itv : Value) (s2 : Shared) : Prop :=
  ∃ (it : Addr) (fp : List Addr) (tn : Nat → Heap → Prop) (J : It) (H' : Hp), itv = .ref it ∧ Inv X pins σ H' s2 ∧ TurnW X.prog X.w X.K tg J fp it tn ∧ tn 0 s2.heap ∧ (∀ b ∈ fp, FpOk X pins H' b) ∧ R J H'
structure PIW (X : Cx) (tg iter : Expr) (wi : TI) : Prop where
  run : ∀ (pins : List (Addr × Obj)) (s : Shared) (σ : L2.St) (H : Hp) (R : It → Hp → Prop), Inv X pins σ H s → wi σ H R →
    wpAny (model X.prog X.w) X.A (eval iter X.env) (fun v s1 => wpAny (model X.prog X.w) X.A (pyIter v) (PIEW X pins σ tg R) X.xe s1) X.xe s
section
variable {X : Cx} {tg : Expr}
theorem pi_strW {e : Expr} {te : TE} (he : PE X e te) : PIW X tg e (iStr te) := by
  refine ⟨fun pins s σ H R I h => ?_⟩
  refine thn (he.run pins s σ H _ I h) fun v s1 ⟨y, H1, I1, r1, x, ex, q⟩ => ?_
  subst ex
  obtain ⟨t, rfl⟩ := r1
  have one : ∀ (ty : String) (hty : ty = "str_ascii_iterator" ∨ ty = "str_iterator"), PIEW X pins σ tg R (.ref s1.heap.objs.size) { s1 with heap := s1.heap.push { cls := .type ty, data := .fields #[.str x t, .int 0 0] } } := fun ty hty => by
    refine ⟨s1.heap.objs.size, [s1.heap.objs.size], _, _, H1, rfl, I1.kept (t' := s1.toks) fun b o e => Heap.get?_push_of_some _ e, ⟨turn_str _ x t ty hty, turn_strH _ x t ty hty⟩, ⟨_, Heap.get?_push_size _ rfl, rfl, rfl⟩, fun b hb => ?_, q⟩
    have e : b = s1.heap.objs.size := by simpa using hb
    subst e
    exact I1.fpOk (Nat.le_refl _) (I1.hok.fresh (Nat.le_refl _))
  cases ha : x.cps.all (fun c => decide (c < 128)) with
  | false => exact wpAny_pyIter_wide ha (one "str_iterator" (.inr rfl))
  | true => exact wpAny_pyIter_ascii ha (one "str_ascii_iterator" (.inl rfl))
theorem range_itW {pins : List (Addr × Obj)} {σ : L2.St} {H : Hp} {s : Shared} {R : It → Hp → Prop} {E : Value → Shared → Prop} {lo hi : Int} {t u v : Tok} {tk : Nat} (I : Inv X pins σ H s) (h1 : -(2 ^ 62) ≤ lo) (h2 : lo < 2 ^ 62) (h3 : -(2 ^ 62) ≤ hi) (h4 : hi < 2 ^ 62)
    (q : R (Itr lo (hi - lo).toNat) H) : wpAny (model X.prog X.w) X.A (pyIter (.ref s.heap.objs.size)) (PIEW X pins σ tg R) E { s with heap := s.heap.push { cls := .type "range", data := .fields #[.int lo t, .int hi u, .int 1 v] }, toks := tk } := by
  refine wpAny_pyIter_range (IsRange.new ..) (small_one h1 h2 h3 h4) ?_
  have I1 : Inv X pins σ H { s with heap := s.heap.push { cls := .type "range", data := .fields #[.int lo t, .int hi u, .int 1 v] }, toks := tk } := I.kept fun b o e => Heap.get?_push_of_some _ e
  refine ⟨(s.heap.push { cls := .type "range", data := .fields #[.int lo t, .int hi u, .int 1 v] }).objs.size, [(s.heap.push { cls := .type "range", data := .fields #[.int lo t, .int hi u, .int 1 v] }).objs.size], _, _, H, rfl,
    I1.kept (t' := tk) fun b o e => Heap.get?_push_of_some _ e, ⟨turn_range _ lo (hi - lo).toNat, turn_rangeH _ lo (hi - lo).toNat⟩, ?_, fun b hb => ?_, q⟩
  · have e1 : lo + ((0 : Nat) : Int) * 1 = lo := by simp
    have e2 : (((hi - lo).toNat : Nat) : Int) - ((0 : Nat) : Int) = Builtin.Range.rangeSize lo hi 1 := by rw [rangeSize_one]; split <;> omega
    show IsRangeIter _ _ (lo + ((0 : Nat) : Int) * 1) ((((hi - lo).toNat : Nat) : Int) - ((0 : Nat) : Int)) 1
    rw [e1, e2]
    exact Heap.get?_push_size _ rfl
  · have e : b = (s.heap.push { cls := .type "range", data := .fields #[.int lo t, .int hi u, .int 1 v] }).objs.size := by simpa using hb
    subst e
    exact I1.fpOk (Nat.le_refl _) (I1.hok.fresh (Nat.le_refl _))
theorem pi_range1W {a : Expr} {ta : TA} {p pos : Pos} (hg : Gl X "range") (hm : X.mg "range" = none) (ha : PA X [a] ta) (hs : starEach [a] X.env = [(false, eval a X.env)] := by rfl) : PIW X tg (.Call (.Name "range" p) [a] [] pos) (iRng1 ta) := by
  refine ⟨fun pins s σ H R I h => ?_⟩
  refine Call_ (ld_blt I hg hm boot_range (PyProof.Rows.callWith_type1 (thn (ha.run pos pins s σ H _ I h) fun us s1 ⟨vs, H1, I1, r1, q1⟩ => ?_) hs rfl))
  obtain ⟨j, e, q1, q2, q⟩ := q1
  subst e
  cases r1 with
  | cons r rr =>
    cases rr
    obtain ⟨t, rfl⟩ := r
    exact call_range_1 (range_itW I1 (by omega) (by omega) q1 q2 (by simpa using q))
end

/-! ### defs that may be called in either -/
structure FnW (P : Program) (w : World) (K : PySem.W.Frag) (mg : Str → Option Value) (base : Heap) (k : Nat) (f : Addr) (fd : FuncData) (ps : List Str) (sp : Sp) : Prop where
  c : FnOk P w K mg base L2.CX0 k f fd ps sp
  h : FnH P w K mg base L2.CX0 k f fd ps sp
abbrev cxW (cl : Bool) (pn : List (Addr × Obj)) (P : Program) (w : World) (K : PySem.W.Frag) (mg : Str → Option Value) (base : Heap) (N : List Str) (qual : Str) (scope : Scope) (f : Addr) (cd : Value) (A : Around) (outer : List Env) (s : Shared) (H : Hp) (E : XK) : Cx :=
  { cxOf L2.CX0 P w K mg base N qual scope f cd A outer s H E with calm := cl, pn := pn, xe := fun _ _ => False }
section
variable {P : Program} {w : World} {K : PySem.W.Frag} {mg : Str → Option Value} {base : Heap}
theorem okW {x qual : Str} {st : Stmt} {f : Addr} {fd : FuncData} {N ps : List Str} {k : Nat} {sp : Sp} (F : L2.Fun K x qual st f fd) (S : FnScope N ps (defScope st)) (len : ∀ vs H Q E, sp vs H Q E → vs.length = ps.length)
    (hbody : ∀ (cl : Bool) (pn : List (Addr × Obj)) (cdv : Value) (A : Around) (outer : List Env) (s : Shared) (H : Hp) (vs : List V) (Q : VK) (E : XK), RoomH k (A.deeper (envOfC qual (defScope st) s.heap.objs.size f cdv)) →
      Warm (cxW cl pn P w K mg base N qual (defScope st) f cdv A outer s H E) → sp vs H Q E →
      ∃ t, PSs (cxW cl pn P w K mg base N qual (defScope st) f cdv A outer s H E) (defBody st) t ∧ t { nx := fun _ H' => Q .non H', rt := Q } (L2.start N vs) H) : FnW P w K mg base (k + 1) f fd ps sp := by
  obtain ⟨oc, od, kV, doc, pm, an, cdv, ct, osl, rfl, lk, hcd⟩ := F.ex
  constructor
  · refine fn_of lk hcd S len fun A outer s H vs Q E hr hsp => ?_
    obtain ⟨t, h, q⟩ := hbody true [] cdv A outer s H vs Q E (roomH_of hr) (.inl rfl) hsp
    exact ⟨t, PSs.nox (X := cxOf L2.CX0 P w K mg base N qual (defScope st) f cdv A outer s H E) h, q⟩
  · refine fn_ofH lk hcd S len fun A outer s H vs Q E p hot hr hsp => ?_
    obtain ⟨t, h, q⟩ := hbody false [p] cdv A outer s H vs Q E hr (.inr ⟨p, hot, by simp⟩) hsp
    exact ⟨t, PSs.nox (X := cxH L2.CX0 P w K mg base N qual (defScope st) f cdv A outer s H E p) h, q⟩
end
def tCallW (sp : Sp) (t : TA) : TE := fun σ H Q => t σ H fun vs H1 => sp vs H1 Q E0
def tMakeW (C : Addr) (sp : Sp) (t : TA) : TE := fun σ H Q => t σ H fun vs H1 => ∀ x dx, H1 x = none → H1 dx = none → dx ≠ x →
  sp (.ref x :: vs) (upd (upd H1 dx (.own x)) x (.ins C dx [])) (fun v H2 => v = .non ∧ Q (.ref x) H2) E0
section
variable {X : Cx} {k : Nat} {f C : Addr} {fd : FuncData} {ps : List Str} {sp : Sp} {x : Str} {q pos : Pos} {e : Expr} {es : List Expr} {t : TA}
theorem run_fnW {pins : List (Addr × Obj)} {σ : L2.St} {H : Hp} {s : Shared} {Q : VK} {us : List Value} {vs : List V} (F : FnW X.prog X.w X.K X.mg X.base k f fd ps sp) (hr : RoomH k X.A) (hw : Warm X) (hb : Binds X.K fd ps [])
    (I : Inv X pins σ H s) (r : Vals vs us) (h : sp vs H Q E0) : wpAny (model X.prog X.w) X.A (call (.ref f) us) (EP X pins σ Q) X.xe s := by
  rcases hw with hc | hc
  · exact run_fn (dvs := []) F.c ⟨I.ok.hd hc, hr.dp, hr.un⟩ hb .nil (L2.pass0) I r (by rw [List.append_nil]; exact h)
  · exact run_fnH (E := fun _ => E0) F.h hr hc hb (fun _ _ _ _ _ _ z => z.elim) I r h
theorem pe_callW (F : FnW X.prog X.w X.K X.mg X.base k f fd ps sp) (hr : RoomH k X.A) (hw : Warm X) (hg : Gl X x) (hm : X.mg x = some (.ref f)) (hk : PySem.W.keepIn X.K (.ref f) = true) (hb : Binds X.K fd ps []) (ha : PA X (e :: es) t)
    (hdb : (x == ("__debug__" : Str)) = false := by decide) (he : starEach (e :: es) X.env = (false, eval e X.env) :: starEach es X.env := by rfl) (hpl : (backTo pos (starEach es X.env)).any (·.1) = false := by rfl) :
    PE X (.Call (.Name x q) (e :: es) [] pos) (tCallW sp t) := by
  refine ⟨fun pins s σ H Q I h => wpAny_Call_Name_kw (ld_glob I hg hm ?_ hdb)⟩
  exact PySem.W.callWith_K (h₀ := X.base) I.ok.mod.kin hk (thn (ha.run pos pins s σ H _ I h) fun us s1 ⟨vs, H1, I1, r, z⟩ => ⟨I1.kIn, run_fnW F hr hw hb I1 r z⟩) he hpl
theorem run_makeH {pins : List (Addr × Obj)} {σ : L2.St} {H : Hp} {s : Shared} {Q : VK} {us : List Value} {vs : List V} (M : Mk X.K C f) (F : FnH X.prog X.w X.K X.mg X.base L2.CX0 k f fd ps sp) (hr : RoomH (k + 1) X.A) (hc : HotC X) (hb : Binds X.K fd ps [])
    (I : Inv X pins σ H s) (r : Vals vs us)
    (h : ∀ x dx, H x = none → H dx = none → dx ≠ x → sp (.ref x :: vs) (upd (upd H dx (.own x)) x (.ins C dx [])) (fun v H2 => v = .non ∧ Q (.ref x) H2) E0) :
    wpAny (model X.prog X.w) X.A (call (.ref C) us) (EP X pins σ Q) X.xe s := by
  obtain ⟨pp, hot, hpn⟩ := hc
  have fresh1 := I.hok.fresh (Nat.le_succ s.heap.objs.size)
  have fresh0 := I.hok.fresh (Nat.le_refl s.heap.objs.size)
  have want := h _ _ fresh1 fresh0 (Nat.ne_of_lt (Nat.lt_succ_self _))
  have J := Inv.made (C := C) I
  have rr : Vals (V.ref (s.heap.objs.size + 1) :: vs) (Value.ref (s.heap.objs.size + 1) :: us) := .cons rfl r
  have hl : (Value.ref (s.heap.objs.size + 1) :: us ++ []).length = ps.length := by
    rw [List.append_nil, ← rr.length, F.len _ _ _ _ want]
  have bd := hb _ (Value.ref (s.heap.objs.size + 1) :: us) J.kIn hl
  rw [List.append_nil] at bd
  have P1 := J.pin pp (List.mem_append_left _ hpn)
  have hpin : PinOk X.stack (upd (upd H s.heap.objs.size (.own (s.heap.objs.size + 1))) (s.heap.objs.size + 1) (.ins C s.heap.objs.size [])) _ pp :=
    ⟨P1.1, P1.2.1, fun hm => (List.mem_cons.mp (J.stkSub pp.1 hm)).elim P1.2.2.1 P1.2.2.2.1, P1.2.2.2.2⟩
  refine wpAny_call (make_map (f := f) I.kIn M.makes M.init (beq_iff_eq.mp M.fn) (codeAny_mono (F.run _ X.stack _ _ ⟨Value.ref (s.heap.objs.size + 1) :: us, []⟩ _ _ _ E0 pp (hr.make C us []) ⟨hot.1, hot.2⟩ hpin (J.env0.make C us []) bd rr want) fun res s' hq => ?_))
  cases res with
  | error e => exact False.elim hq
  | ok fl =>
    cases fl with
    | ret u =>
      obtain ⟨v, H', J3, rv, ev, q3⟩ := J.after hq
      subst ev
      exact ⟨rv, ⟨V.ref (s.heap.objs.size + 1), H', J3, rfl, q3⟩⟩
    | next => exact False.elim hq
    | brk => exact False.elim hq
    | cont => exact False.elim hq
theorem pe_makeW (M : Mk X.K C f) (F : FnW X.prog X.w X.K X.mg X.base k f fd ps sp) (hr : RoomH (k + 1) X.A) (hw : Warm X) (hg : Gl X x) (hm : X.mg x = some (.ref C)) (hb : Binds X.K fd ps []) (ha : PA X (e :: es) t)
    (hdb : (x == ("__debug__" : Str)) = false := by decide) (he : starEach (e :: es) X.env = (false, eval e X.env) :: starEach es X.env := by rfl) (hpl : (backTo pos (starEach es X.env)).any (·.1) = false := by rfl) :
    PE X (.Call (.Name x q) (e :: es) [] pos) (tMakeW C sp t) := by
  refine ⟨fun pins s σ H Q I h => wpAny_Call_Name_kw (ld_glob I hg hm ?_ hdb)⟩
  refine PySem.W.callWith_K (h₀ := X.base) I.ok.mod.kin M.kp (thn (ha.run pos pins s σ H _ I h) fun us s1 ⟨vs, H1, I1, r, z⟩ => ⟨I1.kIn, ?_⟩) he hpl
  rcases hw with hc | hc
  · exact run_make (dvs := []) M F.c ⟨I.ok.hd hc, hr.dp, hr.un⟩ hb .nil (L2.pass0) I1 r (fun x dx a b c => by rw [List.append_nil]; exact z x dx a b c)
  · exact run_makeH M F.h hr hc hb I1 r z
end

/-! ### list comprehensions in either -/
abbrev blkW (X : Cx) (s : Shared) (H : Hp) (scope : Scope) (cenv : Env) (fp : List Addr) : Cx := { X.blk s H scope cenv fp with pn := X.pn }
theorem Warm.blk {X : Cx} (hw : Warm X) (s : Shared) (H : Hp) (scope : Scope) (cenv : Env) (fp : List Addr) : Warm (blkW X s H scope cenv fp) := hw
section
variable {X : Cx} {pins : List (Addr × Obj)} {σ : L2.St} {H : Hp} {s : Shared}
theorem blkW_start {scope : Scope} {own : List (Str × Nat)} {fp : List Addr} (I : Inv X pins σ H s) (ok : BlkOk X.N X.env.scope scope own) (hN : X.N.Nodup) (hfp : ∀ b ∈ fp, FpOk X pins H b ∧ b < s.heap.objs.size) :
    Inv (blkW X s H scope (compEnvC scope (cellsFrom (s.heap.objs.size + 1) scope.names (cloFrom X.env.cells scope.names [])) s.heap.objs.size X.env) fp) [] (wipe σ (own.map (·.2))) H { s with heap := pushCells (s.heap.push { cls := .type "dict", data := .dict #[] }) scope.names } := by
  have J := block_start I ok hN hfp
  obtain ⟨⟨a1, a2, a3, a4, a5, a6, a7, a8, a9, a10, a11, a12, a13, a14, a15, a16, a17, a18⟩, b1, b2, b3, b4, b5, b6, b7, _, b8, b9⟩ := J
  refine ⟨⟨a1, a2, a3, a4, a5, a6, a7, a8, a9, a10, a11, a12, a13, a14, a15, a16, a17, a18⟩, b1, b2, b3, b4, b5, b6, b7, fun p hp => ?_, b8, b9⟩
  have P1 := I.pin p (List.mem_append_left _ (by simpa using hp))
  refine ⟨pushCells_keeps _ _ _ _ (Heap.get?_push_of_some _ P1.1), P1.2.1, ?_, fun hm => (List.mem_cons.mp (I.stkSub p.1 hm)).elim P1.2.2.1 P1.2.2.2.1, P1.2.2.2.2⟩
  exact Nat.ne_of_lt (Heap.lt_size P1.1)
end

section
variable {X : Cx} {pins : List (Addr × Obj)} {σ : L2.St} {H : Hp} {s : Shared}
theorem fpOk_blk {s : Shared} {H0 : Hp} {scope : Scope} {ce : Env} {fp : List Addr} {σ' : L2.St} {H' : Hp} {s' : Shared} (I : Inv (blkW X s H0 scope ce fp) [] σ' H' s') (far : ∀ b ∈ fp, ∀ p ∈ X.pn, p.1 ≠ b) (hn : ∀ b ∈ fp, H' b = none) :
    ∀ b ∈ fp, FpOk (blkW X s H0 scope ce fp) [] H' b := fun b hb =>
  ⟨hn b hb, (I.ok.exf b hb).1, I.ok.exfs b hb, .inl hb, fun x c e => (I.ok.exf b hb).2 x c e, fun p hp => far b hb p (by simpa using (show p ∈ X.pn ++ [] from hp))⟩
theorem TurnW.done {P : Program} {w : World} {K : PySem.W.Frag} {tg : Expr} {J : It} {fp : List Addr} {it : Addr} {tn : Nat → Heap → Prop} (T : TurnW P w K tg J fp it tn) (X : Cx) (h1 : X.prog = P) (h2 : X.w = w) (h3 : X.K = K) (hw : Warm X)
    (i : Nat) (pins : List (Addr × Obj)) (s : Shared) (σ : L2.St) (H : Hp) (E : Value → Shared → Prop) (I : Inv X pins σ H s) (f : ∀ b ∈ fp, FpOk X pins H b) (st : tn i s.heap) (e : J.stop i H) :
    wpAny (model P w) X.A (pyNext (.ref it)) (fun r s1 => r = none ∧ Inv X pins σ H s1) E s := by
  rcases hw with hc | hc
  · exact T.c.done X h1 h2 h3 hc i pins s σ H E I f st e
  · exact T.h.done X h1 h2 h3 hc i pins s σ H E I f st e
theorem TurnW.item {P : Program} {w : World} {K : PySem.W.Frag} {tg : Expr} {J : It} {fp : List Addr} {it : Addr} {tn : Nat → Heap → Prop} (T : TurnW P w K tg J fp it tn) (X : Cx) (h1 : X.prog = P) (h2 : X.w = w) (h3 : X.K = K) (hw : Warm X)
    (i : Nat) (pins : List (Addr × Obj)) (s : Shared) (σ : L2.St) (H : Hp) (E : Value → Shared → Prop) (I : Inv X pins σ H s) (f : ∀ b ∈ fp, FpOk X pins H b) (st : tn i s.heap) (e : J.go i H) :
    wpAny (model P w) X.A (pyNext (.ref it)) (fun r s1 => ∃ u, r = some u ∧
      wpAny (model P w) X.A (letOwnedTupleGo tg (.ref it) u) (fun _ s2 => ∃ x H', Inv X pins σ H' s2 ∧ RelV x u ∧ J.yld i H x H' ∧ tn (i + 1) s2.heap ∧ ∀ b ∈ fp, H' b = none) E s1) E s := by
  rcases hw with hc | hc
  · exact T.c.item X h1 h2 h3 hc i pins s σ H E I f st e
  · exact T.h.item X h1 h2 h3 hc i pins s σ H E I f st e
theorem pe_lcW {elt tg iter : Expr} {scope : Scope} {own : List (Str × Nat)} {pos : Pos} {wi : TI} {g : TG} {te : TE} (hw : Warm X) (hN : X.N.Nodup) (hi : PIW X tg iter wi) (ok : BlkOk X.N X.env.scope scope own)
    (hg : ∀ (s : Shared) (H : Hp) (C : Addr) (cl : List (Str × Addr)) (fp : List Addr), PG (blkW X s H scope (compEnvC scope cl C X.env) fp) tg g)
    (he : ∀ (s : Shared) (H : Hp) (C : Addr) (cl : List (Str × Addr)) (fp : List Addr), PE (blkW X s H scope (compEnvC scope cl C X.env) fp) elt te) (hs : ∀ x, foldedSetIterable iter X.env x = pure x := by intro _; rfl) :
    PE X (.ListComp elt [⟨tg, iter, [], 0⟩] scope pos) (tLc wi g tYes te (own.map (·.2))) := by
  refine ⟨fun pins s σ H Q I h => ?_⟩
  rw [eval_ListComp]
  have hfree : ∀ y ∈ scope.names, y.2 = .free → ∃ c, X.env.cells.lookup y.1 = some c := fun y hy e =>
    (ok.free y hy e).elim (fun k => I.ok.has _ (.inl k)) (fun k => I.ok.has _ (.inr k))
  refine wpAny_comprehension_free (use := none) rfl hs (closure_ok hfree) ok.kind (fun y hy e => by rw [ok.uniq y hy, e])
    (thn (hi.run pins s σ H _ I h) fun xv s1 hx => thn hx fun itv s2 h2 => ?_)
  obtain ⟨it, fp, tn, J, H2, rfl, I2, T, st2, f2, q⟩ := h2
  have far : ∀ b ∈ fp, ∀ p ∈ X.pn, p.1 ≠ b := fun b hb p hp => (f2 b hb).2.2.2.2.2 p (List.mem_append_left _ hp)
  refine wpAny_newObj_type (newEnv_comp ?_) (by show 0 ≤ sizeLine; decide)
  generalize hD : s2.heap.objs.size = D
  obtain ⟨W, ⟨m0, w0⟩, turn⟩ := q D (I2.hok.fresh (Nat.le_of_eq hD))
  generalize hs3 : ({ s2 with heap := s2.heap.push { cls := .type "list", data := .seq ([] : List Value).toArray } } : Shared) = s3
  have e3 : s3.heap = s2.heap.push { cls := .type "list", data := .seq ([] : List Value).toArray } := by rw [← hs3]
  generalize hH3 : upd H2 D (.lst []) = H3 at w0
  have grow : ∀ b o, s2.heap.get? b = some o → s3.heap.get? b = some o := fun b o e => by rw [e3]; exact Heap.get?_push_of_some _ e
  have I3 : Inv X pins σ H3 s3 := by
    rw [← hs3, ← hH3]
    refine I2.laid (t' := s2.toks) (fun b o e => Heap.get?_push_of_some _ e) (Nat.le_of_eq hD) ⟨Nat.zero_le _, [], 0, .nil, ?_⟩
    rw [← hD]
    exact Heap.get?_push_size _ rfl
  have fpl : ∀ b ∈ fp, FpOk X pins H3 b ∧ b < s3.heap.objs.size := fun b hb => by
    obtain ⟨o, e, _⟩ := T.c.obj _ _ st2 b hb
    have lt2 := Heap.lt_size e
    refine ⟨⟨?_, (f2 b hb).2⟩, Heap.lt_size (grow b o e)⟩
    rw [← hH3, upd_ne (by rw [← hD]; exact Nat.ne_of_lt lt2)]
    exact (f2 b hb).1
  have st3 : tn 0 s3.heap := T.c.keep _ _ _ st2 fun b _ o e => grow b o e
  have I4 := blkW_start I3 ok hN fpl
  have pg := hg s3 H3 s3.heap.objs.size (cellsFrom (s3.heap.objs.size + 1) scope.names (cloFrom X.env.cells scope.names [])) fp
  have pe := he s3 H3 s3.heap.objs.size (cellsFrom (s3.heap.objs.size + 1) scope.names (cloFrom X.env.cells scope.names [])) fp
  show codeAny _ _ (.compStart (.ListComp elt [⟨tg, iter, [], 0⟩] scope pos) 0 (.ref it) (.ref D) (compEnvC scope (cellsFrom (s3.heap.objs.size + 1) scope.names (cloFrom X.env.cells scope.names [])) s3.heap.objs.size X.env)) (compPost (model X.prog X.w) X.A X.xe none (EP X pins σ Q) (.ref D) s3.heap.objs.size) { s3 with heap := pushCells (s3.heap.push { cls := .type "dict", data := .dict #[] }) scope.names }
  generalize hce : compEnvC scope (cellsFrom (s3.heap.objs.size + 1) scope.names (cloFrom X.env.cells scope.names [])) s3.heap.objs.size X.env = ce at I4 pg pe ⊢
  have cL : ce.locals = s3.heap.objs.size := by subst hce; rfl
  generalize hs4 : ({ s3 with heap := pushCells (s3.heap.push { cls := .type "dict", data := .dict #[] }) scope.names } : Shared) = s4 at I4 ⊢
  have st4 : tn 0 s4.heap := T.c.keep _ _ _ st3 fun b _ o e => by rw [← hs4]; exact pushCells_keeps _ _ _ _ (Heap.get?_push_of_some _ e)
  have hwB : Warm (blkW X s3 H3 scope ce fp) := hw
  have loop : codeAny (model X.prog X.w) X.A (.compLoop (.ListComp elt [⟨tg, iter, [], 0⟩] scope pos) 0 (.ref it) (.ref D) ce) (compPost (model X.prog X.w) X.A X.xe none (EP X pins σ Q) (.ref D) s3.heap.objs.size) s4 := by
    refine compLoop_any (fun n s' => ∃ i H', Inv (blkW X s3 H3 scope ce fp) [] (wipe σ (own.map (·.2))) H' s' ∧ tn i s'.heap ∧ (∀ b ∈ fp, H' b = none) ∧ W i n H') ?_ m0 ⟨0, H3, I4, st4, fun b hb => (fpl b hb).1.1, w0⟩
    rintro n s5 ⟨i, H5, I5, st5, n5, w5⟩
    have F5 := fpOk_blk I5 far n5
    rcases turn i n H5 w5 with ⟨stop, qq⟩ | ⟨go, Nx, hNx, step⟩
    · refine thnF (TurnW.done T (blkW X s3 H3 scope ce fp) rfl rfl rfl hwB i [] s5 _ H5 (fun _ _ => False) I5 F5 st5 stop) fun r s6 ⟨hr, I6⟩ => ?_
      subst hr
      have I7 : Inv X pins σ H5 s6 := I3.call' (ch := fp) I6.os I6.base I6.hok I6.bare fun b hb => ⟨(fpl b hb).1.2.2.2.1, (fpl b hb).1.2.1, (fpl b hb).1.2.2.2.2.1, (fpl b hb).1.2.2.2.2.2⟩
      have nC : H5 s3.heap.objs.size = none := by
        rw [← cL]
        exact I6.free
      obtain ⟨m, hn, _⟩ := I6.loc
      have hn : s6.heap.Ns ce.locals m := hn
      rw [cL] at hn
      obtain ⟨f0, f1, f2, f3, f4, f5⟩ := I3.fpOk (Nat.le_refl _) nC
      exact ⟨m, hn, fun h'' sb => ⟨.ref D, H5, I7.turned (t' := s6.toks) (fun b o hb e => (sb.2 b hb).trans e) f0 f1 f3 f4 f5, rfl, qq⟩⟩
    · refine thnF (TurnW.item T (blkW X s3 H3 scope ce fp) rfl rfl rfl hwB i [] s5 _ H5 (fun _ _ => False) I5 F5 st5 go) fun r s6 ⟨u, hr, h6⟩ => ?_
      subst hr
      refine thnF h6 fun _ s7 ⟨x, H7, I7, r7, y7, st7, n7⟩ => ?_
      have J7 := I7.pinned (fpOk_blk I7 far n7) (T.c.obj _ _ st7)
      refine thnF (pg.run _ s7 _ H7 x u _ J7 r7 (step x H7 y7)) fun _ s8 ⟨σ8, H8, I8, hw8, q8⟩ => ?_
      refine thnF (wpAny_tests_nil (Q := TP (blkW X s3 H3 scope ce fp) ([] ++ pinsAt fp s7.heap) σ8 fun b H9 => b = true ∧ H9 = H8) ⟨H8, I8, rfl, rfl⟩) fun b s9 ⟨H9, I9, eb, eh⟩ => ?_
      subst eb eh
      simp only [if_true]
      refine thnF (pe.run _ s9 σ8 H9 _ I9 q8) fun z s10 ⟨yv, H10, I10, r10, acc, hD10, hz10, nx⟩ => ?_
      refine app_ok (X := blkW X s3 H3 scope ce fp) I10 hD10 hz10 r10 fun s11 I11 => ?_
      obtain ⟨m', hm, w'⟩ := hNx _ nx
      have pin' : ∀ b ∈ fp, ∀ o, s7.heap.get? b = some o → s11.heap.get? b = some o ∧ upd H10 D (.lst (acc ++ [yv])) b = none := fun b hb o e =>
        let z := I11.pin (b, o) (List.mem_append_right _ (List.mem_append_right _ (mem_pinsAt hb e)))
        ⟨z.1, z.2.1⟩
      have hl : (wipe σ (own.map (·.2))).length = σ8.length := by rw [← hw8, wipe_length]
      refine ⟨m', hm, i + 1, _, (I11.unpinned (pins := [])).weak hl (fun j v e => ?_), T.c.keep _ _ _ st7 fun b hb o e => (pin' b hb o e).1, fun b hb => ?_, w'⟩
      · rw [← hw8] at e
        exact (wipe_some e).1
      · obtain ⟨o, e, _⟩ := T.c.obj _ _ st7 b hb
        exact (pin' b hb o e).2
  exact codeAny_compStart_list loop (T.c.self X.A 0 _ _ _ st4 loop)
end
end Zr
end
section
set_option maxRecDepth 100000
set_option maxHeartbeats 2000000
/-! The program's text by places; what its top has left; packaged callables. -/
namespace Zr
open PySem PySem.Spec PyProof.Rows L2 L2H
def top (i : Nat) : Stmt := PySem.Challenge.pw_lostrequests_s01_answers.main.body.getD i (.Pass ⟨0, 0, 0, 0⟩)
structure DefIn (K : PySem.W.Frag) (mg : Str → Option Value) (x : Str) (st : Stmt) (ps : List Str) : Prop where
  ex : ∃ (f : Addr) (fd : FuncData), L2.Fun K x x st f fd ∧ mg x = some (.ref f) ∧ Binds K fd ps []
structure ClsIn (K : PySem.W.Frag) (mg : Str → Option Value) (x qual : Str) (st : Stmt) (ps : List Str) (C : Addr) : Prop where
  cl : Cls K C
  g : mg x = some (.ref C)
  ex : ∃ (f : Addr) (fd : FuncData), Mk K C f ∧ L2.Fun K "__init__" qual st f fd ∧ Binds K fd ps []
structure RefC (K : PySem.W.Frag) (mg : Str → Option Value) (x qual : Str) (st : Stmt) (C : Addr) : Prop where
  g : mg x = some (.ref C)
  o : OexC K C
  xf : XfC K C
  te : PySem.W.exmOne K (.ref C) (.ref C) = some true
  nk : PySem.W.findIn K (.ref C) "kind" = some none
  nm : PySem.W.findIn K (.ref C) "message" = some none
  ex : ∃ (f : Addr) (fd : FuncData), PySem.W.findIn K (.ref C) "__init__" = some (some (.ref f)) ∧ PySem.W.typeIn K (.ref f) = some (.type "function") ∧ L2.Fun K "__init__" qual st f fd ∧ Binds K fd ["self", "kind", "message"] []
/-- an own class, by isinstance(.., list) -/
structure NoList (K : PySem.W.Frag) (C : Addr) : Prop where
  ha : PySem.W.findIn K (.ref C) "__class__" = some (some (.builtin "object.__class__"))
  hn : PySem.W.specialIn K (.builtin "object.__class__") "__get__" = some (some (.builtin "getset_descriptor.__get__"))
  htk : PySem.W.takesIn K (.builtin "object.__class__") = some true
  hm : PySem.W.mroIn K C (.type "object") = some true
  kl : PySem.W.kitOne K (.ref C) (.type "list") = some false
/-! ### promises by the number of arguments -/
def sp0 (p : Hp → VK → XK → Prop) : Sp := fun vs H Q E => vs = [] ∧ p H Q E
def sp1 (p : V → Hp → VK → XK → Prop) : Sp := fun vs H Q E => ∃ x, vs = [x] ∧ p x H Q E
def sp2 (p : V → V → Hp → VK → XK → Prop) : Sp := fun vs H Q E => ∃ x y, vs = [x, y] ∧ p x y H Q E
def sp3 (p : V → V → V → Hp → VK → XK → Prop) : Sp := fun vs H Q E => ∃ x y z, vs = [x, y, z] ∧ p x y z H Q E
theorem len0 {p : Hp → VK → XK → Prop} : ∀ vs H Q E, sp0 p vs H Q E → vs.length = 0 := fun _ _ _ _ ⟨e, _⟩ => by rw [e]; rfl
theorem len1 {p : V → Hp → VK → XK → Prop} : ∀ vs H Q E, sp1 p vs H Q E → vs.length = 1 := fun _ _ _ _ ⟨_, e, _⟩ => by rw [e]; rfl
theorem len2 {p : V → V → Hp → VK → XK → Prop} : ∀ vs H Q E, sp2 p vs H Q E → vs.length = 2 := fun _ _ _ _ ⟨_, _, e, _⟩ => by rw [e]; rfl
theorem len3 {p : V → V → V → Hp → VK → XK → Prop} : ∀ vs H Q E, sp3 p vs H Q E → vs.length = 3 := fun _ _ _ _ ⟨_, _, _, e, _⟩ => by rw [e]; rfl
/-! ### packaged callables: warm (W), calm (plain), raising (X) -/
section
variable (P : Program) (w : World) (K : PySem.W.Frag) (mg : Str → Option Value) (base : Heap)
structure CalW (k : Nat) (x : Str) (sp : Sp) : Prop where
  ex : ∃ (f : Addr) (fd : FuncData) (ps : List Str), FnW P w K mg base k f fd ps sp ∧ mg x = some (.ref f) ∧ PySem.W.keepIn K (.ref f) = true ∧ Binds K fd ps []
structure Cal (k : Nat) (x : Str) (sp : Sp) : Prop where
  ex : ∃ (f : Addr) (fd : FuncData) (ps : List Str), FnOk P w K mg base L2.CX0 k f fd ps sp ∧ mg x = some (.ref f) ∧ PySem.W.keepIn K (.ref f) = true ∧ Binds K fd ps []
structure CalX (k : Nat) (x : Str) (sp : Sp) : Prop where
  ex : ∃ (f : Addr) (fd : FuncData) (ps : List Str), FnOk P w K mg base (L2N.CX P w) k f fd ps sp ∧ mg x = some (.ref f) ∧ PySem.W.keepIn K (.ref f) = true ∧ Binds K fd ps []
structure MakW (k : Nat) (x : Str) (C : Addr) (sp : Sp) : Prop where
  ex : ∃ (f : Addr) (fd : FuncData) (ps : List Str), Mk K C f ∧ FnW P w K mg base k f fd ps sp ∧ mg x = some (.ref C) ∧ Binds K fd ps []
structure Mak (k : Nat) (x : Str) (C : Addr) (sp : Sp) : Prop where
  ex : ∃ (f : Addr) (fd : FuncData) (ps : List Str), Mk K C f ∧ FnOk P w K mg base L2.CX0 k f fd ps sp ∧ mg x = some (.ref C) ∧ Binds K fd ps []
structure MakX (k : Nat) (x : Str) (C : Addr) (sp : Sp) : Prop where
  ex : ∃ (f : Addr) (fd : FuncData) (ps : List Str), Mk K C f ∧ FnOk P w K mg base (L2N.CX P w) k f fd ps sp ∧ mg x = some (.ref C) ∧ Binds K fd ps []
end
abbrev cxC (P : Program) (w : World) (K : PySem.W.Frag) (mg : Str → Option Value) (base : Heap) (N : List Str) (qual : Str) (scope : Scope) (f : Addr) (cd : Value) (A : Around) (outer : List Env) (s : Shared) (H : Hp) (E : XK) : Cx :=
  (cxOf L2.CX0 P w K mg base N qual scope f cd A outer s H E).nox
abbrev cxX (P : Program) (w : World) (K : PySem.W.Frag) (mg : Str → Option Value) (base : Heap) (N : List Str) (qual : Str) (scope : Scope) (f : Addr) (cd : Value) (A : Around) (outer : List Env) (s : Shared) (H : Hp) (E : XK) : Cx :=
  cxOf (L2N.CX P w) P w K mg base N qual scope f cd A outer s H E
section
variable {P : Program} {w : World} {K : PySem.W.Frag} {mg : Str → Option Value} {base : Heap}
theorem okN {x qual : Str} {st : Stmt} {f : Addr} {fd : FuncData} {N ps : List Str} {k : Nat} {sp : Sp} (F : L2.Fun K x qual st f fd) (S : FnScope N ps (defScope st)) (len : ∀ vs H Q E, sp vs H Q E → vs.length = ps.length)
    (hbody : ∀ (cdv : Value) (A : Around) (outer : List Env) (s : Shared) (H : Hp) (vs : List V) (Q : VK) (E : XK), Room k (A.deeper (envOfC qual (defScope st) s.heap.objs.size f cdv)) → sp vs H Q E →
      ∃ t, PSs (cxX P w K mg base N qual (defScope st) f cdv A outer s H E) (defBody st) t ∧ t { nx := fun _ H' => Q .non H', rt := Q } (L2.start N vs) H) : FnOk P w K mg base (L2N.CX P w) (k + 1) f fd ps sp := by
  obtain ⟨oc, od, kV, doc, pm, an, cdv, ct, osl, rfl, lk, hcd⟩ := F.ex
  exact fn_of lk hcd S len fun A outer s H vs Q E hr hsp => hbody cdv A outer s H vs Q E hr hsp
theorem calW {x : Str} {st : Stmt} {N ps : List Str} {k : Nat} {sp : Sp} (d : DefIn K mg x st ps) (S : FnScope N ps (defScope st)) (len : ∀ vs H Q E, sp vs H Q E → vs.length = ps.length)
    (hbody : ∀ (f : Addr) (cl : Bool) (pn : List (Addr × Obj)) (cdv : Value) (A : Around) (outer : List Env) (s : Shared) (H : Hp) (vs : List V) (Q : VK) (E : XK), RoomH k (A.deeper (envOfC x (defScope st) s.heap.objs.size f cdv)) →
      Warm (cxW cl pn P w K mg base N x (defScope st) f cdv A outer s H E) → sp vs H Q E →
      ∃ t, PSs (cxW cl pn P w K mg base N x (defScope st) f cdv A outer s H E) (defBody st) t ∧ t { nx := fun _ H' => Q .non H', rt := Q } (L2.start N vs) H) : CalW P w K mg base (k + 1) x sp := by
  obtain ⟨f, fd, F, hm, b⟩ := d.ex
  exact ⟨f, fd, ps, okW F S len (hbody f), hm, F.kp, b⟩
theorem cal {x : Str} {st : Stmt} {N ps : List Str} {k : Nat} {sp : Sp} (d : DefIn K mg x st ps) (S : FnScope N ps (defScope st)) (len : ∀ vs H Q E, sp vs H Q E → vs.length = ps.length)
    (hbody : ∀ (f : Addr) (cdv : Value) (A : Around) (outer : List Env) (s : Shared) (H : Hp) (vs : List V) (Q : VK) (E : XK), Room k (A.deeper (envOfC x (defScope st) s.heap.objs.size f cdv)) → sp vs H Q E →
      ∃ t, PSs (cxC P w K mg base N x (defScope st) f cdv A outer s H E) (defBody st) t ∧ t { nx := fun _ H' => Q .non H', rt := Q } (L2.start N vs) H) : Cal P w K mg base (k + 1) x sp := by
  obtain ⟨f, fd, F, hm, b⟩ := d.ex
  exact ⟨f, fd, ps, F.ok S len (hbody f), hm, F.kp, b⟩
theorem calX {x : Str} {st : Stmt} {N ps : List Str} {k : Nat} {sp : Sp} (d : DefIn K mg x st ps) (S : FnScope N ps (defScope st)) (len : ∀ vs H Q E, sp vs H Q E → vs.length = ps.length)
    (hbody : ∀ (f : Addr) (cdv : Value) (A : Around) (outer : List Env) (s : Shared) (H : Hp) (vs : List V) (Q : VK) (E : XK), Room k (A.deeper (envOfC x (defScope st) s.heap.objs.size f cdv)) → sp vs H Q E →
      ∃ t, PSs (cxX P w K mg base N x (defScope st) f cdv A outer s H E) (defBody st) t ∧ t { nx := fun _ H' => Q .non H', rt := Q } (L2.start N vs) H) : CalX P w K mg base (k + 1) x sp := by
  obtain ⟨f, fd, F, hm, b⟩ := d.ex
  exact ⟨f, fd, ps, okN F S len (hbody f), hm, F.kp, b⟩
theorem makW {x qual : Str} {st : Stmt} {N ps : List Str} {k : Nat} {sp : Sp} {C : Addr} (d : ClsIn K mg x qual st ps C) (S : FnScope N ps (defScope st)) (len : ∀ vs H Q E, sp vs H Q E → vs.length = ps.length)
    (hbody : ∀ (f : Addr) (cl : Bool) (pn : List (Addr × Obj)) (cdv : Value) (A : Around) (outer : List Env) (s : Shared) (H : Hp) (vs : List V) (Q : VK) (E : XK), RoomH k (A.deeper (envOfC qual (defScope st) s.heap.objs.size f cdv)) →
      Warm (cxW cl pn P w K mg base N qual (defScope st) f cdv A outer s H E) → sp vs H Q E →
      ∃ t, PSs (cxW cl pn P w K mg base N qual (defScope st) f cdv A outer s H E) (defBody st) t ∧ t { nx := fun _ H' => Q .non H', rt := Q } (L2.start N vs) H) : MakW P w K mg base (k + 1) x C sp := by
  obtain ⟨f, fd, M, F, b⟩ := d.ex
  exact ⟨f, fd, ps, M, okW F S len (hbody f), d.g, b⟩
theorem mak {x qual : Str} {st : Stmt} {N ps : List Str} {k : Nat} {sp : Sp} {C : Addr} (d : ClsIn K mg x qual st ps C) (S : FnScope N ps (defScope st)) (len : ∀ vs H Q E, sp vs H Q E → vs.length = ps.length)
    (hbody : ∀ (f : Addr) (cdv : Value) (A : Around) (outer : List Env) (s : Shared) (H : Hp) (vs : List V) (Q : VK) (E : XK), Room k (A.deeper (envOfC qual (defScope st) s.heap.objs.size f cdv)) → sp vs H Q E →
      ∃ t, PSs (cxC P w K mg base N qual (defScope st) f cdv A outer s H E) (defBody st) t ∧ t { nx := fun _ H' => Q .non H', rt := Q } (L2.start N vs) H) : Mak P w K mg base (k + 1) x C sp := by
  obtain ⟨f, fd, M, F, b⟩ := d.ex
  exact ⟨f, fd, ps, M, F.ok S len (hbody f), d.g, b⟩
theorem makX {x qual : Str} {st : Stmt} {N ps : List Str} {k : Nat} {sp : Sp} {C : Addr} (d : ClsIn K mg x qual st ps C) (S : FnScope N ps (defScope st)) (len : ∀ vs H Q E, sp vs H Q E → vs.length = ps.length)
    (hbody : ∀ (f : Addr) (cdv : Value) (A : Around) (outer : List Env) (s : Shared) (H : Hp) (vs : List V) (Q : VK) (E : XK), Room k (A.deeper (envOfC qual (defScope st) s.heap.objs.size f cdv)) → sp vs H Q E →
      ∃ t, PSs (cxX P w K mg base N qual (defScope st) f cdv A outer s H E) (defBody st) t ∧ t { nx := fun _ H' => Q .non H', rt := Q } (L2.start N vs) H) : MakX P w K mg base (k + 1) x C sp := by
  obtain ⟨f, fd, M, F, b⟩ := d.ex
  exact ⟨f, fd, ps, M, okN F S len (hbody f), d.g, b⟩
end
/-- len of a list or a tuple, the module told -/
def rLenK (K : PySem.W.Frag) : List V → Hp → VK → Prop := fun xs H Q => ∃ p ys, xs = [.ref p] ∧ (SqL K H p ys ∨ SqT K H p ys) ∧ Q (.int ys.length) H
def tMakeX (C : Addr) (sp : Sp) (E : XK) (t : TA) : TE := fun σ H Q => t σ H fun vs H1 => ∀ x dx, H1 x = none → H1 dx = none → dx ≠ x →
  sp (.ref x :: vs) (upd (upd H1 dx (.own x)) x (.ins C dx [])) (fun v H2 => v = .non ∧ Q (.ref x) H2) E
section
variable {X : Cx} {j k : Nat} {C : Addr} {sp : Sp} {x : Str} {q pos : Pos} {e : Expr} {es : List Expr} {t : TA}
theorem pe_cw (c : CalW X.prog X.w X.K X.mg X.base k x sp) (hr : RoomH j X.A) (hk : k ≤ j) (hw : Warm X) (hg : Gl X x) (ha : PA X (e :: es) t)
    (hdb : (x == ("__debug__" : Str)) = false := by decide) (he : starEach (e :: es) X.env = (false, eval e X.env) :: starEach es X.env := by rfl) (hpl : (backTo pos (starEach es X.env)).any (·.1) = false := by rfl) :
    PE X (.Call (.Name x q) (e :: es) [] pos) (tCallW sp t) := by
  obtain ⟨f, fd, ps, F, hm, kp, b⟩ := c.ex
  exact pe_callW F (hr.mono hk) hw hg hm kp b ha hdb he hpl
theorem pe_c (c : Cal X.prog X.w X.K X.mg X.base k x sp) (hr : Room j X.A) (hk : k ≤ j) (hg : Gl X x) (ha : PA X (e :: es) t)
    (hdb : (x == ("__debug__" : Str)) = false := by decide) (he : starEach (e :: es) X.env = (false, eval e X.env) :: starEach es X.env := by rfl) (hpl : (backTo pos (starEach es X.env)).any (·.1) = false := by rfl) :
    PE X (.Call (.Name x q) (e :: es) [] pos) (tCallW sp t) := by
  obtain ⟨f, fd, ps, F, hm, kp, b⟩ := c.ex
  refine ⟨fun pins s σ H Q I h => wpAny_Call_Name_kw (ld_glob I hg hm ?_ hdb)⟩
  exact PySem.W.callWith_K (h₀ := X.base) I.ok.mod.kin kp (thn (ha.run pos pins s σ H _ I h) fun us s1 ⟨vs, H1, I1, r, z⟩ => ⟨I1.kIn, run_fn (dvs := []) F (hr.mono hk) b .nil L2.pass0 I1 r (by rw [List.append_nil]; exact z)⟩) he hpl
theorem pe_c0 (c : Cal X.prog X.w X.K X.mg X.base k x sp) (hr : Room j X.A) (hk : k ≤ j) (hg : Gl X x) (hdb : (x == ("__debug__" : Str)) = false := by decide) : PE X (.Call (.Name x q) [] [] pos) (tCallW sp tNil) := by
  obtain ⟨f, fd, ps, F, hm, kp, b⟩ := c.ex
  exact pe_call0 F (hr.mono hk) hg hm kp b .nil L2.pass0 hdb
theorem pe_cx {W : WX} (c : CalX X.prog X.w X.K X.mg X.base k x sp) (hr : Room j X.A) (hk : k ≤ j) (tk : L2N.Takes X W) (hg : Gl X x) (ha : PA X (e :: es) t)
    (hdb : (x == ("__debug__" : Str)) = false := by decide) (he : starEach (e :: es) X.env = (false, eval e X.env) :: starEach es X.env := by rfl) (hpl : (backTo pos (starEach es X.env)).any (·.1) = false := by rfl) :
    PE X (.Call (.Name x q) (e :: es) [] pos) (tCallS sp (WE W) t) := by
  obtain ⟨f, fd, ps, F, hm, kp, b⟩ := c.ex
  exact pe_callS F (hr.mono hk) hg hm kp b (fun σ => L2N.passAt tk σ) ha hdb he hpl
theorem pe_mkw (c : MakW X.prog X.w X.K X.mg X.base k x C sp) (hr : RoomH j X.A) (hk : k + 1 ≤ j) (hw : Warm X) (hg : Gl X x) (ha : PA X (e :: es) t)
    (hdb : (x == ("__debug__" : Str)) = false := by decide) (he : starEach (e :: es) X.env = (false, eval e X.env) :: starEach es X.env := by rfl) (hpl : (backTo pos (starEach es X.env)).any (·.1) = false := by rfl) :
    PE X (.Call (.Name x q) (e :: es) [] pos) (tMakeW C sp t) := by
  obtain ⟨f, fd, ps, M, F, hm, b⟩ := c.ex
  exact pe_makeW M F (hr.mono hk) hw hg hm b ha hdb he hpl
theorem pe_mk (c : Mak X.prog X.w X.K X.mg X.base k x C sp) (hr : Room j X.A) (hk : k + 1 ≤ j) (hg : Gl X x) (ha : PA X (e :: es) t)
    (hdb : (x == ("__debug__" : Str)) = false := by decide) (he : starEach (e :: es) X.env = (false, eval e X.env) :: starEach es X.env := by rfl) (hpl : (backTo pos (starEach es X.env)).any (·.1) = false := by rfl) :
    PE X (.Call (.Name x q) (e :: es) [] pos) (tMakeW C sp t) := by
  obtain ⟨f, fd, ps, M, F, hm, b⟩ := c.ex
  refine ⟨fun pins s σ H Q I h => wpAny_Call_Name_kw (ld_glob I hg hm ?_ hdb)⟩
  exact PySem.W.callWith_K (h₀ := X.base) I.ok.mod.kin M.kp (thn (ha.run pos pins s σ H _ I h) fun us s1 ⟨vs, H1, I1, r, z⟩ => ⟨I1.kIn, run_make (dvs := []) M F (hr.mono hk) b .nil L2.pass0 I1 r (fun x dx a b c => by rw [List.append_nil]; exact z x dx a b c)⟩) he hpl
theorem pe_mk0 (c : Mak X.prog X.w X.K X.mg X.base k x C sp) (hr : Room j X.A) (hk : k + 1 ≤ j) (hg : Gl X x) (hdb : (x == ("__debug__" : Str)) = false := by decide) : PE X (.Call (.Name x q) [] [] pos) (tMakeW C sp tNil) := by
  obtain ⟨f, fd, ps, M, F, hm, b⟩ := c.ex
  exact pe_make0 M F (hr.mono hk) hg hm b .nil L2.pass0 hdb
theorem pe_mkx {E : XK} (c : MakX X.prog X.w X.K X.mg X.base k x C sp) (hr : Room j X.A) (hk : k + 1 ≤ j) (tk : L2N.Takes X (fun cls d _ H => E cls d H)) (hg : Gl X x) (ha : PA X (e :: es) t)
    (hdb : (x == ("__debug__" : Str)) = false := by decide) (he : starEach (e :: es) X.env = (false, eval e X.env) :: starEach es X.env := by rfl) (hpl : (backTo pos (starEach es X.env)).any (·.1) = false := by rfl) :
    PE X (.Call (.Name x q) (e :: es) [] pos) (tMakeX C sp E t) := by
  obtain ⟨f, fd, ps, M, F, hm, b⟩ := c.ex
  refine ⟨fun pins s σ H Q I h => wpAny_Call_Name_kw (ld_glob I hg hm ?_ hdb)⟩
  exact PySem.W.callWith_K (h₀ := X.base) I.ok.mod.kin M.kp (thn (ha.run pos pins s σ H _ I h) fun us s1 ⟨vs, H1, I1, r, z⟩ => ⟨I1.kIn, run_make (dvs := []) M F (hr.mono hk) b .nil (L2N.passes_call (W := fun cls d _ H => E cls d H) tk fun _ _ _ _ h => h) I1 r (fun x dx a b c => by rw [List.append_nil]; exact z x dx a b c)⟩) he hpl
end
/-! ### names of the module -/
theorem pe_gc {X : Cx} {x : Str} {v : V} {pos : Pos} (hg : Gl X x) (h : ∃ u, X.mg x = some u ∧ RelV v u) (hd : (x == ("__debug__" : Str)) = false := by decide) : PE X (.Name x pos) (tC v) := by
  obtain ⟨u, hm, r⟩ := h
  exact pe_glob hg hm r hd
/-! ### fields -/
def tF (C : Addr) (f : Str) (te : TE) : TE := fun σ H Q => te σ H fun x H1 => ∃ p dx fs v, x = .ref p ∧ H1 p = some (.ins C dx fs) ∧ fs.lookup f = some v ∧ Q v H1
def sF (C : Addr) (f : Str) (ta tv : TE) : TS := fun D σ H => tv σ H fun y H1 => ta σ H1 fun x H2 => ∃ p dx fs, x = .ref p ∧ H2 p = some (.ins C dx fs) ∧ Nat.blt fs.length 1000 = true ∧ D.nx σ (upd H2 p (.ins C dx (putF f y fs)))
def sFA (C : Addr) (f : Str) (ta tv : TE) : TS := fun D σ H => ta σ H fun x H1 => ∃ p dx fs i, x = .ref p ∧ H1 p = some (.ins C dx fs) ∧ fs.lookup f = some (.int i) ∧ tv σ H1 fun y H2 => ∃ j dx' fs', y = .int j ∧ H2 p = some (.ins C dx' fs') ∧ Nat.blt fs'.length 1000 = true ∧
  D.nx σ (upd H2 p (.ins C dx' (putF f (.int (i + j)) fs')))
section
variable {X : Cx} {C : Addr} {f : Str} {e o value : Expr} {te ta tv : TE} {pos pos' tpos : Pos}
theorem pe_f (c : Cls X.K C) (n : NoAttr X.K C f) (he : PE X e te) (hb : attributeBase e f X.env (eval e X.env) = eval e X.env := by rfl) : PE X (.Attribute e f pos) (tF C f te) := by
  refine ⟨fun pins s σ H Q I h => attr_of hb (thn (he.run pins s σ H _ I h) fun u s1 ⟨x, H1, I1, rx, p, dx, fs, v, ex, ea, l, q⟩ => ?_)⟩
  subst ex
  obtain rfl : u = Value.ref p := rx
  exact getattr_ok I1 ea c n l fun u' s2 I2 ru => ⟨v, H1, I2, ru, q⟩
theorem ps_f (c : Cls X.K C) (n : NoAttr X.K C f) (ha : PE X o ta) (hv : PE X value tv) (hs : swapsWith value (some (.Attribute o f pos')) pos.line X.env = pure false := by rfl) : PS X (.Assign [.Attribute o f pos'] value pos) (sF C f ta tv) := by
  refine ⟨fun pins s σ H D I h => plainObj_wpAny_Assign_Attribute (thn (hv.run pins s σ H _ I h) fun u s1 ⟨y, H1, I1, ry, q⟩ => thn (ha.run pins s1 σ H1 _ I1 q) fun ov s2 ⟨x, H2, I2, rx, p, dx, fs, ex, ea, l, q2⟩ => ?_) hs⟩
  subst ex
  obtain rfl : ov = Value.ref p := rx
  exact setattr_ok I2 ea c n (Nat.le_of_ble_eq_true l) ry fun s3 I3 => ⟨σ, _, I3, q2⟩
theorem ps_fa (c : Cls X.K C) (n : NoAttr X.K C f) (ha : PE X o ta) (hv : PE X value tv) : PS X (.AugAssign (.Attribute o f tpos) .Add value pos) (sFA C f ta tv) := by
  refine ⟨fun pins s σ H D I h => wpAny_AugAssign_AttributeAny (thn (ha.run pins s σ H _ I h) fun ov s1 ⟨x, H1, I1, rx, p, dx, fs, i, ex, ea, l, q⟩ => ?_)⟩
  subst ex
  obtain rfl : ov = Value.ref p := rx
  refine getattr_ok I1 ea c n l fun u s2 I2 ru => thn (hv.run pins s2 σ H1 _ I2 q) fun w3 s3 ⟨y, H2, I3, ry, j, dx', fs', ey, ea', l', q4⟩ => ?_
  subst ey
  refine thn (in_add pins s3 σ H2 (.int i) (.int j) u w3 (fun z H3 => z = .int (i + j) ∧ H3 = H2) I3 ru ry ⟨i, j, rfl, rfl, rfl, rfl⟩) fun w4 s4 ⟨z, H3, I4, rz, ez, eh⟩ => ?_
  subst ez eh
  exact setattr_ok I4 ea' c n (Nat.le_of_ble_eq_true l') rz fun s5 I5 => ⟨σ, _, I5, q4⟩
end
/-! ### a statement, then the rest, a word between them -/
def tCut (t u : TS) : TS := fun D σ H => ∃ Mid : L2.St → Hp → Prop, t { D with nx := Mid } σ H ∧ ∀ σ' H', Mid σ' H' → u D σ' H'
theorem pss_cut {X : Cx} {st : Stmt} {rest : List Stmt} {t u : TS} (h1 : PS X st t) (h2 : PSs X rest u) : PSs X (st :: rest) (tCut t u) := by
  refine ⟨fun pins s σ H D I ⟨Mid, hm, hu⟩ => wpAny_execs_cons (thn (h1.run pins s σ H { D with nx := Mid } I hm) fun f s1 q => ?_)⟩
  cases f with
  | next =>
    obtain ⟨σ', H', I', q⟩ := q
    exact h2.run pins s1 σ' H' D I' (hu σ' H' q)
  | ret v => exact q
  | brk => exact q
  | cont => exact q

abbrev s_PieceInit : Stmt := inClass (top 9) 0
theorem sc_PieceInit : FnScope ["self", "kind", "content"] ["self", "kind", "content"] (defScope s_PieceInit) := ⟨rfl, rfl, rfl, by decide +kernel, rfl, by decide +kernel, by decide +kernel⟩
abbrev s_ReaderInit : Stmt := inClass (top 10) 0
theorem sc_ReaderInit : FnScope ["self", "octets"] ["self", "octets"] (defScope s_ReaderInit) := ⟨rfl, rfl, rfl, by decide +kernel, rfl, by decide +kernel, by decide +kernel⟩
abbrev s_nothing : Stmt := top 11
theorem sc_nothing : FnScope [] [] (defScope s_nothing) := ⟨rfl, rfl, rfl, by decide +kernel, rfl, by decide +kernel, by decide +kernel⟩
abbrev s_truth : Stmt := top 12
theorem sc_truth : FnScope ["is_so"] ["is_so"] (defScope s_truth) := ⟨rfl, rfl, rfl, by decide +kernel, rfl, by decide +kernel, by decide +kernel⟩
abbrev s_number : Stmt := top 13
theorem sc_number : FnScope ["own"] ["own"] (defScope s_number) := ⟨rfl, rfl, rfl, by decide +kernel, rfl, by decide +kernel, by decide +kernel⟩
abbrev s_codes : Stmt := top 14
theorem sc_codes : FnScope ["text", "sign"] ["text"] (defScope s_codes) := ⟨rfl, rfl, rfl, by decide +kernel, rfl, by decide +kernel, by decide +kernel⟩
abbrev s_text : Stmt := top 15
theorem sc_text : FnScope ["plain"] ["plain"] (defScope s_text) := ⟨rfl, rfl, rfl, by decide +kernel, rfl, by decide +kernel, by decide +kernel⟩
abbrev s_row : Stmt := top 16
theorem sc_row : FnScope ["pieces"] ["pieces"] (defScope s_row) := ⟨rfl, rfl, rfl, by decide +kernel, rfl, by decide +kernel, by decide +kernel⟩
abbrev s_record : Stmt := top 17
theorem sc_record : FnScope ["pairs", "name", "piece"] ["pairs"] (defScope s_record) := ⟨rfl, rfl, rfl, by decide +kernel, rfl, by decide +kernel, by decide +kernel⟩
abbrev s_is_word : Stmt := top 18
theorem sc_is_word : FnScope ["piece", "plain"] ["piece", "plain"] (defScope s_is_word) := ⟨rfl, rfl, rfl, by decide +kernel, rfl, by decide +kernel, by decide +kernel⟩
abbrev s_take_octet : Stmt := top 19
theorem sc_take_octet : FnScope ["reader"] ["reader"] (defScope s_take_octet) := ⟨rfl, rfl, rfl, by decide +kernel, rfl, by decide +kernel, by decide +kernel⟩
abbrev s_take_number : Stmt := top 20
theorem sc_take_number : FnScope ["reader", "many", "found", "place"] ["reader", "many"] (defScope s_take_number) := ⟨rfl, rfl, rfl, by decide +kernel, rfl, by decide +kernel, by decide +kernel⟩
abbrev s_take_octets : Stmt := top 21
theorem sc_take_octets : FnScope ["reader", "many"] ["reader"] (defScope s_take_octets) := ⟨rfl, rfl, rfl, by decide +kernel, rfl, by decide +kernel, by decide +kernel⟩
abbrev s_OpenInit : Stmt := inClass (top 22) 0
theorem sc_OpenInit : FnScope ["self", "kind", "many"] ["self", "kind", "many"] (defScope s_OpenInit) := ⟨rfl, rfl, rfl, by decide +kernel, rfl, by decide +kernel, by decide +kernel⟩
abbrev s_whole_of : Stmt := top 23
theorem sc_whole_of : FnScope ["opened"] ["opened"] (defScope s_whole_of) := ⟨rfl, rfl, rfl, by decide +kernel, rfl, by decide +kernel, by decide +kernel⟩
abbrev s_take_plain : Stmt := top 24
theorem sc_take_plain : FnScope ["reader", "kind", "found"] ["reader", "kind"] (defScope s_take_plain) := ⟨rfl, rfl, rfl, by decide +kernel, rfl, by decide +kernel, by decide +kernel⟩
abbrev s_take_piece : Stmt := top 25
theorem sc_take_piece : FnScope ["reader", "stack", "kind", "found"] ["reader"] (defScope s_take_piece) := ⟨rfl, rfl, rfl, by decide +kernel, rfl, by decide +kernel, by decide +kernel⟩
abbrev s_number_octets : Stmt := top 26
theorem sc_number_octets : FnScope ["own", "many", "place"] ["own", "many"] (defScope s_number_octets) := ⟨rfl, rfl, rfl, by decide +kernel, rfl, by decide +kernel, by decide +kernel⟩
abbrev s_counted : Stmt := top 27
theorem sc_counted : FnScope ["octets"] ["octets"] (defScope s_counted) := ⟨rfl, rfl, rfl, by decide +kernel, rfl, by decide +kernel, by decide +kernel⟩
abbrev s_told : Stmt := top 28
theorem sc_told : FnScope ["piece", "found", "left", "own", "name", "inner"] ["piece"] (defScope s_told) := ⟨rfl, rfl, rfl, by decide +kernel, rfl, by decide +kernel, by decide +kernel⟩
abbrev s_RefusedInit : Stmt := inClass (top 37) 0
theorem sc_RefusedInit : FnScope ["self", "kind", "message"] ["self", "kind", "message"] (defScope s_RefusedInit) := ⟨rfl, rfl, rfl, by decide +kernel, rfl, by decide +kernel, by decide +kernel⟩
abbrev s_BatchInit : Stmt := inClass (top 38) 0
theorem sc_BatchInit : FnScope ["self", "conditions", "writes"] ["self", "conditions", "writes"] (defScope s_BatchInit) := ⟨rfl, rfl, rfl, by decide +kernel, rfl, by decide +kernel, by decide +kernel⟩
abbrev s_EntryInit : Stmt := inClass (top 39) 0
theorem sc_EntryInit : FnScope ["self", "form", "batch"] ["self", "form", "batch"] (defScope s_EntryInit) := ⟨rfl, rfl, rfl, by decide +kernel, rfl, by decide +kernel, by decide +kernel⟩
abbrev s_need : Stmt := top 40
theorem sc_need : FnScope ["is_right", "message"] ["is_right", "message"] (defScope s_need) := ⟨rfl, rfl, rfl, by decide +kernel, rfl, by decide +kernel, by decide +kernel⟩
abbrev s_check : Stmt := top 41
theorem sc_check : FnScope ["is_right", "message"] ["is_right", "message"] (defScope s_check) := ⟨rfl, rfl, rfl, by decide +kernel, rfl, by decide +kernel, by decide +kernel⟩
abbrev s_is_number : Stmt := top 42
theorem sc_is_number : FnScope ["piece", "low", "high"] ["piece", "low", "high"] (defScope s_is_number) := ⟨rfl, rfl, rfl, by decide +kernel, rfl, by decide +kernel, by decide +kernel⟩
abbrev s_is_list : Stmt := top 43
theorem sc_is_list : FnScope ["piece", "low", "high"] ["piece", "low", "high"] (defScope s_is_list) := ⟨rfl, rfl, rfl, by decide +kernel, rfl, by decide +kernel, by decide +kernel⟩
abbrev s_pairs_of : Stmt := top 44
theorem sc_pairs_of : FnScope ["piece", "low", "keys", "found", "own", "some", "key", "number"] ["piece", "low", "keys"] (defScope s_pairs_of) := ⟨rfl, rfl, rfl, by decide +kernel, rfl, by decide +kernel, by decide +kernel⟩
abbrev s_batch_of : Stmt := top 45
theorem sc_batch_of : FnScope ["piece", "keys", "conditions", "writes"] ["piece", "keys"] (defScope s_batch_of) := ⟨rfl, rfl, rfl, by decide +kernel, rfl, by decide +kernel, by decide +kernel⟩
abbrev s_need_batch : Stmt := top 46
theorem sc_need_batch : FnScope ["piece", "keys", "found"] ["piece", "keys"] (defScope s_need_batch) := ⟨rfl, rfl, rfl, by decide +kernel, rfl, by decide +kernel, by decide +kernel⟩
abbrev s_read_entry : Stmt := top 47
theorem sc_read_entry : FnScope ["parts", "keys", "found", "own"] ["parts", "keys"] (defScope s_read_entry) := ⟨rfl, rfl, rfl, by decide +kernel, rfl, by decide +kernel, by decide +kernel⟩
abbrev s_entry_of : Stmt := top 48
theorem sc_entry_of : FnScope ["piece", "keys", "parts", "is_lost", "is_answered", "batch", "found"] ["piece", "keys"] (defScope s_entry_of) := ⟨rfl, rfl, rfl, by decide +kernel, rfl, by decide +kernel, by decide +kernel⟩
abbrev s_keys_of : Stmt := top 49
theorem sc_keys_of : FnScope ["piece"] ["piece"] (defScope s_keys_of) := ⟨rfl, rfl, rfl, by decide +kernel, rfl, by decide +kernel, by decide +kernel⟩
abbrev s_log_of : Stmt := top 50
theorem sc_log_of : FnScope ["piece", "keys", "message", "found", "lost", "own"] ["piece", "keys"] (defScope s_log_of) := ⟨rfl, rfl, rfl, by decide +kernel, rfl, by decide +kernel, by decide +kernel⟩
abbrev s_key_of : Stmt := top 51
theorem sc_key_of : FnScope ["piece", "keys"] ["piece", "keys"] (defScope s_key_of) := ⟨rfl, rfl, rfl, by decide +kernel, rfl, by decide +kernel, by decide +kernel⟩
abbrev s_CommitInit : Stmt := inClass (top 55) 0
theorem sc_CommitInit : FnScope ["self", "most"] ["self", "most"] (defScope s_CommitInit) := ⟨rfl, rfl, rfl, by decide +kernel, rfl, by decide +kernel, by decide +kernel⟩
abbrev s_reject : Stmt := top 56
theorem sc_reject : FnScope ["commit", "kind", "message"] ["commit", "kind", "message"] (defScope s_reject) := ⟨rfl, rfl, rfl, by decide +kernel, rfl, by decide +kernel, by decide +kernel⟩
abbrev s_check_commit : Stmt := top 57
theorem sc_check_commit : FnScope ["batch", "most", "found", "some", "key", "own", "version"] ["batch", "most"] (defScope s_check_commit) := ⟨rfl, rfl, rfl, by decide +kernel, rfl, by decide +kernel, by decide +kernel⟩
abbrev s_begun : Stmt := top 58
theorem sc_begun : FnScope ["batch", "most", "e", "found"] ["batch", "most"] (defScope s_begun) := ⟨rfl, rfl, rfl, by decide +kernel, rfl, by decide +kernel, by decide +kernel⟩
abbrev s_does_wait : Stmt := top 59
theorem sc_does_wait : FnScope ["commit"] ["commit"] (defScope s_does_wait) := ⟨rfl, rfl, rfl, by decide +kernel, rfl, by decide +kernel, by decide +kernel⟩
abbrev s_fulfil : Stmt := top 60
theorem sc_fulfil : FnScope ["commit", "pairs"] ["commit"] (defScope s_fulfil) := ⟨rfl, rfl, rfl, by decide +kernel, rfl, by decide +kernel, by decide +kernel⟩
abbrev s_answer_commit : Stmt := top 61
theorem sc_answer_commit : FnScope ["commit", "reply"] ["commit", "reply"] (defScope s_answer_commit) := ⟨rfl, rfl, rfl, by decide +kernel, rfl, by decide +kernel, by decide +kernel⟩
abbrev s_fail_commit : Stmt := top 62
theorem sc_fail_commit : FnScope ["commit", "reason", "message"] ["commit", "reason"] (defScope s_fail_commit) := ⟨rfl, rfl, rfl, by decide +kernel, rfl, by decide +kernel, by decide +kernel⟩
abbrev s_by_replies : Stmt := top 63
theorem sc_by_replies : FnScope ["commit", "replies", "reply"] ["commit", "replies"] (defScope s_by_replies) := ⟨rfl, rfl, rfl, by decide +kernel, rfl, by decide +kernel, by decide +kernel⟩
abbrev s_outcome_told : Stmt := top 64
theorem sc_outcome_told : FnScope ["commit"] ["commit"] (defScope s_outcome_told) := ⟨rfl, rfl, rfl, by decide +kernel, rfl, by decide +kernel, by decide +kernel⟩
abbrev s_does_hold : Stmt := top 66
theorem sc_does_hold : FnScope ["batch", "records", "key", "version"] ["batch", "records"] (defScope s_does_hold) := ⟨rfl, rfl, rfl, by decide +kernel, rfl, by decide +kernel, by decide +kernel⟩
abbrev s_written : Stmt := top 67
theorem sc_written : FnScope ["batch", "records", "found", "key", "number"] ["batch", "records"] (defScope s_written) := ⟨rfl, rfl, rfl, by decide +kernel, rfl, by decide +kernel, by decide +kernel⟩
abbrev s_arrived : Stmt := top 68
theorem sc_arrived : FnScope ["log", "world", "place", "records", "waiting", "done", "left", "batch", "own"] ["log", "world", "place"] (defScope s_arrived) := ⟨rfl, rfl, rfl, by decide +kernel, rfl, by decide +kernel, by decide +kernel⟩
abbrev s_with_arrivals : Stmt := top 69
theorem sc_with_arrivals : FnScope ["log", "worlds", "found", "order", "world", "at", "place", "later"] ["log", "worlds"] (defScope s_with_arrivals) := ⟨rfl, rfl, rfl, by decide +kernel, rfl, by decide +kernel, by decide +kernel⟩
abbrev s_behind : Stmt := top 70
theorem sc_behind : FnScope ["log", "place", "worlds", "entry", "found", "records", "waiting", "done", "later", "world"] ["log", "place", "worlds"] (defScope s_behind) := ⟨rfl, rfl, rfl, by decide +kernel, rfl, by decide +kernel, by decide +kernel⟩
abbrev s_worlds_of : Stmt := top 71
theorem sc_worlds_of : FnScope ["keys", "log", "found", "place"] ["keys", "log"] (defScope s_worlds_of) := ⟨rfl, rfl, rfl, by decide +kernel, rfl, by decide +kernel, by decide +kernel⟩
abbrev s_may_still : Stmt := top 72
theorem sc_may_still : FnScope ["log", "world", "place", "records", "waiting", "done", "key", "version"] ["log", "world", "place"] (defScope s_may_still) := ⟨rfl, rfl, rfl, by decide +kernel, rfl, by decide +kernel, by decide +kernel⟩
abbrev s_is_open : Stmt := top 73
theorem sc_is_open : FnScope ["log", "worlds", "place", "world"] ["log", "worlds", "place"] (defScope s_is_open) := ⟨rfl, rfl, rfl, by decide +kernel, rfl, by decide +kernel, by decide +kernel⟩
abbrev s_lost_places : Stmt := top 74
theorem sc_lost_places : FnScope ["log", "place", "entry"] ["log"] (defScope s_lost_places) := ⟨rfl, rfl, rfl, by decide +kernel, rfl, by decide +kernel, by decide +kernel⟩
abbrev s_fate_of : Stmt := top 75
theorem sc_fate_of : FnScope ["log", "worlds", "place", "effects", "world"] ["log", "worlds", "place"] (defScope s_fate_of) := ⟨rfl, rfl, rfl, by decide +kernel, rfl, by decide +kernel, by decide +kernel⟩
abbrev s_settling_keys : Stmt := top 76
theorem sc_settling_keys : FnScope ["keys", "log", "worlds", "some", "place", "rows", "row", "longer", "start", "key", "version", "own"] ["keys", "log", "worlds"] (defScope s_settling_keys) := ⟨rfl, rfl, rfl, by decide +kernel, rfl, by decide +kernel, by decide +kernel⟩
abbrev s_DeskInit : Stmt := inClass (top 79) 0
theorem sc_DeskInit : FnScope ["self"] ["self"] (defScope s_DeskInit) := ⟨rfl, rfl, rfl, by decide +kernel, rfl, by decide +kernel, by decide +kernel⟩
abbrev s_QuestionInit : Stmt := inClass (top 80) 0
theorem sc_QuestionInit : FnScope ["self", "given"] ["self", "given"] (defScope s_QuestionInit) := ⟨rfl, rfl, rfl, by decide +kernel, rfl, by decide +kernel, by decide +kernel⟩
abbrev s_record_told : Stmt := top 81
theorem sc_record_told : FnScope ["record", "own"] ["record"] (defScope s_record_told) := ⟨rfl, rfl, rfl, by decide +kernel, rfl, by decide +kernel, by decide +kernel⟩
abbrev s_possible_states : Stmt := top 82
theorem sc_possible_states : FnScope ["desk", "given", "question", "found", "world", "record", "state"] ["desk", "given"] (defScope s_possible_states) := ⟨rfl, rfl, rfl, by decide +kernel, rfl, by decide +kernel, by decide +kernel⟩
abbrev s_possible_records : Stmt := top 83
theorem sc_possible_records : FnScope ["desk", "given", "question", "key", "found", "world", "record"] ["desk", "given"] (defScope s_possible_records) := ⟨rfl, rfl, rfl, by decide +kernel, rfl, by decide +kernel, by decide +kernel⟩
abbrev s_possible_answers : Stmt := top 84
theorem sc_possible_answers : FnScope ["desk", "given", "question", "batch", "found", "world", "own"] ["desk", "given"] (defScope s_possible_answers) := ⟨rfl, rfl, rfl, by decide +kernel, rfl, by decide +kernel, by decide +kernel⟩
abbrev s_fates : Stmt := top 85
theorem sc_fates : FnScope ["desk", "given", "question", "found", "place"] ["desk", "given"] (defScope s_fates) := ⟨rfl, rfl, rfl, by decide +kernel, rfl, by decide +kernel, by decide +kernel⟩
abbrev s_settle : Stmt := top 86
theorem sc_settle : FnScope ["desk", "given", "question", "found", "key"] ["desk", "given"] (defScope s_settle) := ⟨rfl, rfl, rfl, by decide +kernel, rfl, by decide +kernel, by decide +kernel⟩
abbrev s_start : Stmt := top 87
theorem sc_start : FnScope ["desk", "given"] ["desk", "given"] (defScope s_start) := ⟨rfl, rfl, rfl, by decide +kernel, rfl, by decide +kernel, by decide +kernel⟩
abbrev s_start_by_replies : Stmt := top 88
theorem sc_start_by_replies : FnScope ["desk", "given", "commit"] ["desk", "given"] (defScope s_start_by_replies) := ⟨rfl, rfl, rfl, by decide +kernel, rfl, by decide +kernel, by decide +kernel⟩
abbrev s_start_with_value : Stmt := top 89
theorem sc_start_with_value : FnScope ["desk", "given", "commit"] ["desk", "given"] (defScope s_start_with_value) := ⟨rfl, rfl, rfl, by decide +kernel, rfl, by decide +kernel, by decide +kernel⟩
abbrev s_commit_of : Stmt := top 90
theorem sc_commit_of : FnScope ["desk", "given"] ["desk", "given"] (defScope s_commit_of) := ⟨rfl, rfl, rfl, by decide +kernel, rfl, by decide +kernel, by decide +kernel⟩
abbrev s_open_sends : Stmt := top 91
theorem sc_open_sends : FnScope ["desk", "given", "commit"] ["desk", "given"] (defScope s_open_sends) := ⟨rfl, rfl, rfl, by decide +kernel, rfl, by decide +kernel, by decide +kernel⟩
abbrev s_answer_send : Stmt := top 92
theorem sc_answer_send : FnScope ["desk", "given"] ["desk", "given"] (defScope s_answer_send) := ⟨rfl, rfl, rfl, by decide +kernel, rfl, by decide +kernel, by decide +kernel⟩
abbrev s_fail_send : Stmt := top 93
theorem sc_fail_send : FnScope ["desk", "given"] ["desk", "given"] (defScope s_fail_send) := ⟨rfl, rfl, rfl, by decide +kernel, rfl, by decide +kernel, by decide +kernel⟩
abbrev s_tell_outcome : Stmt := top 94
theorem sc_tell_outcome : FnScope ["desk", "given"] ["desk", "given"] (defScope s_tell_outcome) := ⟨rfl, rfl, rfl, by decide +kernel, rfl, by decide +kernel, by decide +kernel⟩
abbrev s_answered : Stmt := top 96
theorem sc_answered : FnScope ["desk", "octets", "reader", "door", "given", "e", "turn"] ["desk", "octets"] (defScope s_answered) := ⟨rfl, rfl, rfl, by decide +kernel, rfl, by decide +kernel, by decide +kernel⟩
abbrev s_answers : Stmt := top 97
theorem sc_answers : FnScope ["calls", "desk", "found", "at", "end", "own"] ["calls"] (defScope s_answers) := ⟨rfl, rfl, rfl, by decide +kernel, rfl, by decide +kernel, by decide +kernel⟩
/-- where the classes stand -/
structure Adr where
  piece : Addr
  reader : Addr
  opened : Addr
  batch : Addr
  entry : Addr
  commit : Addr
  desk : Addr
  quest : Addr
  refused : Addr
/-- what the top has left -/
structure Txt (K : PySem.W.Frag) (mg : Str → Option Value) (a : Adr) : Prop where
  c_Piece : ClsIn K mg "Piece" "Piece.__init__" s_PieceInit ["self", "kind", "content"] a.piece
  n_Piece_kind : NoAttr K a.piece "kind"
  n_Piece_content : NoAttr K a.piece "content"
  c_Reader : ClsIn K mg "Reader" "Reader.__init__" s_ReaderInit ["self", "octets"] a.reader
  n_Reader_octets : NoAttr K a.reader "octets"
  n_Reader_at : NoAttr K a.reader "at"
  d_nothing : DefIn K mg "nothing" s_nothing []
  d_truth : DefIn K mg "truth" s_truth ["is_so"]
  d_number : DefIn K mg "number" s_number ["own"]
  d_codes : DefIn K mg "codes" s_codes ["text"]
  d_text : DefIn K mg "text" s_text ["plain"]
  d_row : DefIn K mg "row" s_row ["pieces"]
  d_record : DefIn K mg "record" s_record ["pairs"]
  d_is_word : DefIn K mg "is_word" s_is_word ["piece", "plain"]
  d_take_octet : DefIn K mg "take_octet" s_take_octet ["reader"]
  d_take_number : DefIn K mg "take_number" s_take_number ["reader", "many"]
  d_take_octets : DefIn K mg "take_octets" s_take_octets ["reader"]
  c_Open : ClsIn K mg "Open" "Open.__init__" s_OpenInit ["self", "kind", "many"] a.opened
  n_Open_kind : NoAttr K a.opened "kind"
  n_Open_many : NoAttr K a.opened "many"
  n_Open_members : NoAttr K a.opened "members"
  n_Open_names : NoAttr K a.opened "names"
  d_whole_of : DefIn K mg "whole_of" s_whole_of ["opened"]
  d_take_plain : DefIn K mg "take_plain" s_take_plain ["reader", "kind"]
  d_take_piece : DefIn K mg "take_piece" s_take_piece ["reader"]
  d_number_octets : DefIn K mg "number_octets" s_number_octets ["own", "many"]
  d_counted : DefIn K mg "counted" s_counted ["octets"]
  d_told : DefIn K mg "told" s_told ["piece"]
  c_Batch : ClsIn K mg "Batch" "Batch.__init__" s_BatchInit ["self", "conditions", "writes"] a.batch
  n_Batch_conditions : NoAttr K a.batch "conditions"
  n_Batch_writes : NoAttr K a.batch "writes"
  c_Entry : ClsIn K mg "Entry" "Entry.__init__" s_EntryInit ["self", "form", "batch"] a.entry
  n_Entry_form : NoAttr K a.entry "form"
  n_Entry_batch : NoAttr K a.entry "batch"
  n_Entry_effect : NoAttr K a.entry "effect"
  n_Entry_key : NoAttr K a.entry "key"
  n_Entry_record : NoAttr K a.entry "record"
  d_need : DefIn K mg "need" s_need ["is_right", "message"]
  d_check : DefIn K mg "check" s_check ["is_right", "message"]
  d_is_number : DefIn K mg "is_number" s_is_number ["piece", "low", "high"]
  d_is_list : DefIn K mg "is_list" s_is_list ["piece", "low", "high"]
  d_pairs_of : DefIn K mg "pairs_of" s_pairs_of ["piece", "low", "keys"]
  d_batch_of : DefIn K mg "batch_of" s_batch_of ["piece", "keys"]
  d_need_batch : DefIn K mg "need_batch" s_need_batch ["piece", "keys"]
  d_read_entry : DefIn K mg "read_entry" s_read_entry ["parts", "keys"]
  d_entry_of : DefIn K mg "entry_of" s_entry_of ["piece", "keys"]
  d_keys_of : DefIn K mg "keys_of" s_keys_of ["piece"]
  d_log_of : DefIn K mg "log_of" s_log_of ["piece", "keys"]
  d_key_of : DefIn K mg "key_of" s_key_of ["piece", "keys"]
  c_Commit : ClsIn K mg "Commit" "Commit.__init__" s_CommitInit ["self", "most"] a.commit
  n_Commit_most : NoAttr K a.commit "most"
  n_Commit_attempt : NoAttr K a.commit "attempt"
  n_Commit_lost : NoAttr K a.commit "lost"
  n_Commit_outcome : NoAttr K a.commit "outcome"
  d_reject : DefIn K mg "reject" s_reject ["commit", "kind", "message"]
  d_check_commit : DefIn K mg "check_commit" s_check_commit ["batch", "most"]
  d_begun : DefIn K mg "begun" s_begun ["batch", "most"]
  d_does_wait : DefIn K mg "does_wait" s_does_wait ["commit"]
  d_fulfil : DefIn K mg "fulfil" s_fulfil ["commit"]
  d_answer_commit : DefIn K mg "answer_commit" s_answer_commit ["commit", "reply"]
  d_fail_commit : DefIn K mg "fail_commit" s_fail_commit ["commit", "reason"]
  d_by_replies : DefIn K mg "by_replies" s_by_replies ["commit", "replies"]
  d_outcome_told : DefIn K mg "outcome_told" s_outcome_told ["commit"]
  d_does_hold : DefIn K mg "does_hold" s_does_hold ["batch", "records"]
  d_written : DefIn K mg "written" s_written ["batch", "records"]
  d_arrived : DefIn K mg "arrived" s_arrived ["log", "world", "place"]
  d_with_arrivals : DefIn K mg "with_arrivals" s_with_arrivals ["log", "worlds"]
  d_behind : DefIn K mg "behind" s_behind ["log", "place", "worlds"]
  d_worlds_of : DefIn K mg "worlds_of" s_worlds_of ["keys", "log"]
  d_may_still : DefIn K mg "may_still" s_may_still ["log", "world", "place"]
  d_is_open : DefIn K mg "is_open" s_is_open ["log", "worlds", "place"]
  d_lost_places : DefIn K mg "lost_places" s_lost_places ["log"]
  d_fate_of : DefIn K mg "fate_of" s_fate_of ["log", "worlds", "place"]
  d_settling_keys : DefIn K mg "settling_keys" s_settling_keys ["keys", "log", "worlds"]
  c_Desk : ClsIn K mg "Desk" "Desk.__init__" s_DeskInit ["self"] a.desk
  n_Desk_commits : NoAttr K a.desk "commits"
  c_Question : ClsIn K mg "Question" "Question.__init__" s_QuestionInit ["self", "given"] a.quest
  n_Question_many : NoAttr K a.quest "many"
  n_Question_log : NoAttr K a.quest "log"
  n_Question_worlds : NoAttr K a.quest "worlds"
  d_record_told : DefIn K mg "record_told" s_record_told ["record"]
  d_possible_states : DefIn K mg "possible_states" s_possible_states ["desk", "given"]
  d_possible_records : DefIn K mg "possible_records" s_possible_records ["desk", "given"]
  d_possible_answers : DefIn K mg "possible_answers" s_possible_answers ["desk", "given"]
  d_fates : DefIn K mg "fates" s_fates ["desk", "given"]
  d_settle : DefIn K mg "settle" s_settle ["desk", "given"]
  d_start : DefIn K mg "start" s_start ["desk", "given"]
  d_start_by_replies : DefIn K mg "start_by_replies" s_start_by_replies ["desk", "given"]
  d_start_with_value : DefIn K mg "start_with_value" s_start_with_value ["desk", "given"]
  d_commit_of : DefIn K mg "commit_of" s_commit_of ["desk", "given"]
  d_open_sends : DefIn K mg "open_sends" s_open_sends ["desk", "given"]
  d_answer_send : DefIn K mg "answer_send" s_answer_send ["desk", "given"]
  d_fail_send : DefIn K mg "fail_send" s_fail_send ["desk", "given"]
  d_tell_outcome : DefIn K mg "tell_outcome" s_tell_outcome ["desk", "given"]
  d_answered : DefIn K mg "answered" s_answered ["desk", "octets"]
  d_answers : DefIn K mg "answers" s_answers ["calls"]
  nl : NoList K a.piece
  refC : RefC K mg "Refused" "Refused.__init__" s_RefusedInit a.refused
  k_NOTHING : ∃ u, mg "NOTHING" = some u ∧ RelV (.int 0) u
  k_NULL : ∃ u, mg "NULL" = some u ∧ RelV (.int 1) u
  k_FALSE : ∃ u, mg "FALSE" = some u ∧ RelV (.int 2) u
  k_TRUE : ∃ u, mg "TRUE" = some u ∧ RelV (.int 3) u
  k_INTEGER : ∃ u, mg "INTEGER" = some u ∧ RelV (.int 4) u
  k_TEXT : ∃ u, mg "TEXT" = some u ∧ RelV (.int 6) u
  k_LIST : ∃ u, mg "LIST" = some u ∧ RelV (.int 7) u
  k_RECORD : ∃ u, mg "RECORD" = some u ∧ RelV (.int 8) u
  k_MOST_KEYS : ∃ u, mg "MOST_KEYS" = some u ∧ RelV (.int 4) u
  k_MOST_NUMBER : ∃ u, mg "MOST_NUMBER" = some u ∧ RelV (.int 100) u
  k_MOST_ENTRIES : ∃ u, mg "MOST_ENTRIES" = some u ∧ RelV (.int 8) u
  k_MOST_LOST : ∃ u, mg "MOST_LOST" = some u ∧ RelV (.int 5) u
  k_LOST : ∃ u, mg "LOST" = some u ∧ RelV (.str "lost") u
  k_ANSWERED : ∃ u, mg "ANSWERED" = some u ∧ RelV (.str "answered") u
  k_READ : ∃ u, mg "READ" = some u ∧ RelV (.str "read") u
  k_MOST_ATTEMPTS : ∃ u, mg "MOST_ATTEMPTS" = some u ∧ RelV (.int 10) u
  k_MOST_ARGUMENTS : ∃ u, mg "MOST_ARGUMENTS" = some u ∧ RelV (.int 4) u
  b_ord : mg "ord" = none
  b_range : mg "range" = none
  b_list : mg "list" = none
  b_len : mg "len" = none
  b_set : mg "set" = none
  b_sorted : mg "sorted" = none
  b_tuple : mg "tuple" = none
  b_dict : mg "dict" = none
  b_all : mg "all" = none
  b_any : mg "any" = none
  b_enumerate : mg "enumerate" = none
  b_zip : mg "zip" = none
  b_isinstance : mg "isinstance" = none
  kinds : ∃ (d : Addr) (es : Array DictEntry), mg "KINDS" = some (.ref d) ∧ KInt K d es ∧ (∃ u, findBy Value.isInt es 1 = some u ∧ RelV (.str "TypeError") u) ∧ (∃ u, findBy Value.isInt es 2 = some u ∧ RelV (.str "RangeError") u)
  doors : ∃ (d : Addr) (es : Array DictEntry), mg "DOORS" = some (.ref d) ∧ KInt K d es ∧ (∃ f, mg "possible_states" = some (.ref f) ∧ findBy Value.isInt es 0 = some (.ref f)) ∧ (∃ f, mg "possible_records" = some (.ref f) ∧ findBy Value.isInt es 1 = some (.ref f)) ∧ (∃ f, mg "possible_answers" = some (.ref f) ∧ findBy Value.isInt es 2 = some (.ref f)) ∧ (∃ f, mg "fates" = some (.ref f) ∧ findBy Value.isInt es 3 = some (.ref f)) ∧ (∃ f, mg "settle" = some (.ref f) ∧ findBy Value.isInt es 4 = some (.ref f)) ∧ (∃ f, mg "start" = some (.ref f) ∧ findBy Value.isInt es 5 = some (.ref f)) ∧ (∃ f, mg "start_by_replies" = some (.ref f) ∧ findBy Value.isInt es 6 = some (.ref f)) ∧ (∃ f, mg "start_with_value" = some (.ref f) ∧ findBy Value.isInt es 7 = some (.ref f)) ∧ (∃ f, mg "open_sends" = some (.ref f) ∧ findBy Value.isInt es 8 = some (.ref f)) ∧ (∃ f, mg "answer_send" = some (.ref f) ∧ findBy Value.isInt es 9 = some (.ref f)) ∧ (∃ f, mg "fail_send" = some (.ref f) ∧ findBy Value.isInt es 10 = some (.ref f)) ∧ (∃ f, mg "tell_outcome" = some (.ref f) ∧ findBy Value.isInt es 11 = some (.ref f))
end Zr
end
section
set_option maxRecDepth 100000
set_option maxHeartbeats 2000000
/-! Words about the heap: pieces, growing heaps. -/
namespace Zr
open PySem PySem.Spec PyProof.Rows L2 L2H
open Zp (oi)

theorem sm_refl {H : Hp} : Same H H := fun _ _ h => h
theorem sm_trans {H H1 H2 : Hp} (a : Same H H1) (b : Same H1 H2) : Same H H2 := fun x o h => b x o (a x o h)
theorem sm_upd {H : Hp} {p : Addr} {o : HO} (h : H p = none) : Same H (upd H p o) := fun b u e => by
  rw [upd_ne (ne_of_none e h)]; exact e
theorem sm_none {H H' : Hp} (s : Same H H') {b : Addr} (h : H' b = none) : H b = none := by
  cases e : H b with
  | none => rfl
  | some o => rw [s b o e] at h; cases h
theorem upd_none {H : Hp} {a b : Addr} {o : HO} (h : upd H a o b = none) : b ≠ a ∧ H b = none := by
  by_cases e : b = a
  · rw [e, upd_same] at h; cases h
  · rw [upd_ne e] at h; exact ⟨e, h⟩

/-! ### instances -/
def fPiece (k c : V) : List (Str × V) := [("kind", k), ("content", c)]
def fReader (o a : V) : List (Str × V) := [("octets", o), ("at", a)]
def fOpen (k m ms ns : V) : List (Str × V) := [("kind", k), ("many", m), ("members", ms), ("names", ns)]
def fBatch (c w : V) : List (Str × V) := [("conditions", c), ("writes", w)]
def fEntry (f b e k r : V) : List (Str × V) := [("form", f), ("batch", b), ("effect", e), ("key", k), ("record", r)]
def fCommit (m t l o : V) : List (Str × V) := [("most", m), ("attempt", t), ("lost", l), ("outcome", o)]
def fDesk (c : V) : List (Str × V) := [("commits", c)]
def fQuest (m l w : V) : List (Str × V) := [("many", m), ("log", l), ("worlds", w)]
/-- an instance with these fields -/
def Ins (H : Hp) (p C : Addr) (fs : List (Str × V)) : Prop := ∃ dx, H p = some (.ins C dx fs)
theorem Ins.same {H H' : Hp} {p C : Addr} {fs : List (Str × V)} (s : Same H H') (h : Ins H p C fs) : Ins H' p C fs := ⟨h.choose, s _ _ h.choose_spec⟩
/-- what an __init__ leaves, where nothing but the instance is touched -/
def spIn (n : Nat) (C : Addr) (fs : List V → List (Str × V)) : Sp := fun vs H Q _ => ∃ p dx us, us.length = n ∧ vs = .ref p :: us ∧ H p = some (.ins C dx []) ∧ Q .non (upd H p (.ins C dx (fs us)))
theorem lenIn {n : Nat} {C : Addr} {fs : List V → List (Str × V)} : ∀ vs H Q E, spIn n C fs vs H Q E → vs.length = n + 1 := fun _ _ _ _ ⟨_, _, _, h, e, _⟩ => by rw [e, List.length_cons, h]
/-- a made instance: all else as it was -/
theorem made {n : Nat} {C : Addr} {fs : List V → List (Str × V)} {vs : List V} {H : Hp} {Q : VK} {E : XK} (hl : vs.length = n) (h : ∀ H' p, H p = none → Same H H' → Ins H' p C (fs vs) → Q (.ref p) H') :
    ∀ x dx, H x = none → H dx = none → dx ≠ x → spIn n C fs (.ref x :: vs) (upd (upd H dx (.own x)) x (.ins C dx [])) (fun v H2 => v = .non ∧ Q (.ref x) H2) E := by
  intro x dx hx hd hne
  refine ⟨x, dx, vs, hl, rfl, upd_same, rfl, h _ x hx (fun b o e => ?_) ⟨dx, upd_same⟩⟩
  have n1 : b ≠ x := ne_of_none e hx
  have n2 : b ≠ dx := ne_of_none e hd
  rw [upd_ne n1, upd_ne n1, upd_ne n2]
  exact e

/-! ### pieces: what stands at an address, and all below -/
section
variable (a : Adr) (H : Hp)
abbrev Pc (p : Addr) (k : Int) (c : V) : Prop := Ins H p a.piece (fPiece (.int k) c)
abbrev Oc (l : Addr) (u : RWire.Text) : Prop := H l = some (.lst ((oi u).map V.int))
mutual
def PAt : RWire.Value → Addr → Prop
  | .nothing, p => Pc a H p 0 (.int 0)
  | .null, p => Pc a H p 1 (.int 0)
  | .bool b, p => Pc a H p (if b then 3 else 2) (.int 0)
  | .int i, p => Pc a H p 4 (.int i)
  | .text u, p => ∃ l, Pc a H p 6 (.ref l) ∧ Oc H l u
  | .list vs, p => ∃ (l : Addr) (ps : List Addr), Pc a H p 7 (.ref l) ∧ H l = some (.lst (ps.map V.ref)) ∧ PAll vs ps
  | .record es, p => ∃ (l : Addr) (ts : List Addr), Pc a H p 8 (.ref l) ∧ H l = some (.lst (ts.map V.ref)) ∧ PEnts es ts
  | .big _, _ => False
  | .octets _, _ => False
  | .wide _, _ => False
def PAll : List RWire.Value → List Addr → Prop
  | [], ps => ps = []
  | v :: vs, ps => ∃ q r, ps = q :: r ∧ PAt v q ∧ PAll vs r
def PEnts : List (RWire.Text × RWire.Value) → List Addr → Prop
  | [], ts => ts = []
  | e :: es, ts => ∃ (t n q : Addr) (r : List Addr), ts = t :: r ∧ H t = some (.tup [.ref n, .ref q]) ∧ Oc H n e.1 ∧ PAt e.2 q ∧ PEnts es r
end
end
section
variable {a : Adr} {H H' : Hp}
mutual
theorem PAt.same (s : Same H H') : ∀ (v : RWire.Value) (p : Addr), PAt a H v p → PAt a H' v p
  | .nothing, _, h => Ins.same s h
  | .null, _, h => Ins.same s h
  | .bool _, _, h => Ins.same s h
  | .int _, _, h => Ins.same s h
  | .text _, _, ⟨l, h1, h2⟩ => ⟨l, Ins.same s h1, s _ _ h2⟩
  | .list vs, _, ⟨l, ps, h1, h2, h3⟩ => ⟨l, ps, Ins.same s h1, s _ _ h2, PAll.same s vs ps h3⟩
  | .record es, _, ⟨l, ts, h1, h2, h3⟩ => ⟨l, ts, Ins.same s h1, s _ _ h2, PEnts.same s es ts h3⟩
  | .big _, _, h => h
  | .octets _, _, h => h
  | .wide _, _, h => h
theorem PAll.same (s : Same H H') : ∀ (vs : List RWire.Value) (ps : List Addr), PAll a H vs ps → PAll a H' vs ps
  | [], _, h => h
  | v :: vs, _, ⟨q, r, e, h1, h2⟩ => ⟨q, r, e, PAt.same s v q h1, PAll.same s vs r h2⟩
theorem PEnts.same (s : Same H H') : ∀ (es : List (RWire.Text × RWire.Value)) (ts : List Addr), PEnts a H es ts → PEnts a H' es ts
  | [], _, h => h
  | e :: es, _, ⟨t, n, q, r, e1, h1, h2, h3, h4⟩ => ⟨t, n, q, r, e1, s _ _ h1, s _ _ h2, PAt.same s e.2 q h3, PEnts.same s es r h4⟩
end
end

/-! ### what will not change: a part G of the heap -/
/-- the part that stays grows by what is new (G in H becomes G' in H') -/
structure Grow (G H G' H' : Hp) : Prop where
  up : Same G G'
  sub : Same G' H'
  same : Same H H'
  new : ∀ b, G b = none → H b ≠ none → G' b = none
theorem Grow.refl {G H : Hp} (s : Same G H) : Grow G H G H := ⟨sm_refl, s, sm_refl, fun _ h _ => h⟩
theorem Grow.trans {G H G1 H1 G2 H2 : Hp} (x : Grow G H G1 H1) (y : Grow G1 H1 G2 H2) : Grow G H G2 H2 :=
  ⟨sm_trans x.up y.up, y.sub, sm_trans x.same y.same, fun b h1 h2 => y.new b (x.new b h1 h2) (by
    cases e : H b with
    | none => exact absurd e h2
    | some o => rw [x.same b o e]; simp)⟩
/-- nothing of it is kept for ever -/
theorem Grow.loose {G H G1 H1 H2 : Hp} (x : Grow G H G1 H1) (s : Same H1 H2) : Grow G H G1 H2 := ⟨x.up, sm_trans x.sub s, sm_trans x.same s, x.new⟩
/-- a new object that is kept -/
theorem Grow.put {G H : Hp} {p : Addr} {o : HO} (s : Same G H) (h : H p = none) : Grow G H (upd G p o) (upd H p o) := by
  have g : G p = none := sm_none s h
  refine ⟨sm_upd g, fun b u e => ?_, sm_upd h, fun b h1 h2 => ?_⟩
  · by_cases q : b = p
    · subst q; rw [upd_same] at e ⊢; exact e
    · rw [upd_ne q] at e ⊢; exact s b u e
  · have q : b ≠ p := fun z => h2 (by rw [z]; exact h)
    rw [upd_ne q]; exact h1
/-- what stands is kept from now on: p stands in H' and is new since H -/
theorem sm_keep {G H' : Hp} {p : Addr} {o : HO} (s : Same G H') (h : H' p = some o) : Same (upd G p o) H' := fun b u e => by
  by_cases q : b = p
  · subst q; rw [upd_same] at e; rw [h]; exact e
  · rw [upd_ne q] at e; exact s b u e
theorem Grow.keep {G H G1 H1 : Hp} {p : Addr} {o : HO} (x : Grow G H G1 H1) (h : H1 p = some o) (hn : H p = none) (g : G1 p = none) : Grow G H (upd G1 p o) H1 :=
  ⟨sm_trans x.up (sm_upd g), sm_keep x.sub h, x.same, fun b h1 h2 => by
    have q : b ≠ p := fun z => h2 (by rw [z]; exact hn)
    rw [upd_ne q]; exact x.new b h1 h2⟩
end Zr
namespace Zr
open PySem PySem.Spec PyProof.Rows L2 L2H
open Zp (oi)
/-- a new object, kept from now on -/
theorem grow_obj {G H G1 H1 H2 : Hp} {p : Addr} {o : HO} (x : Grow G H G1 H1) (hp : H1 p = none) (s : Same H1 H2) (h : H2 p = some o) : ∃ G2, Grow G H G2 H2 ∧ Same G1 G2 ∧ G2 p = some o := by
  have g := sm_none x.sub hp
  exact ⟨upd G1 p o, (x.loose s).keep h (sm_none x.same hp) g, sm_upd g, upd_same⟩
theorem grow_pc {a : Adr} {G H G1 H1 H2 : Hp} {p : Addr} {k : Int} {c : V} (x : Grow G H G1 H1) (hp : H1 p = none) (s : Same H1 H2) (h : Pc a H2 p k c) : ∃ G2, Grow G H G2 H2 ∧ Same G1 G2 ∧ Pc a G2 p k c := by
  obtain ⟨dx, e⟩ := h
  obtain ⟨G2, g1, g2, g3⟩ := grow_obj x hp s e
  exact ⟨G2, g1, g2, dx, g3⟩
/-- the code points of a text, as whole numbers -/
def cI (s : Str) : List Int := s.cps.toList.map fun (c : Nat) => (c : Int)
theorem cI_len (s : Str) : (cI s).length = s.cps.size := by simp [cI]
theorem pall_of {a : Adr} {G : Hp} : ∀ (vs : List RWire.Value) (ps : List Addr), vs.length = ps.length → (∀ (i : Nat) v p, vs[i]? = some v → ps[i]? = some p → PAt a G v p) → PAll a G vs ps
  | [], [], _, _ => rfl
  | v :: vs, p :: ps, h, k => ⟨p, ps, rfl, k 0 v p rfl rfl, pall_of vs ps (by simpa using h) fun i v p h1 h2 => k (i + 1) v p h1 h2⟩
  | [], p :: ps, h, _ => by simp at h
  | v :: vs, [], h, _ => by simp at h
theorem pall_len {a : Adr} {G : Hp} : ∀ {vs : List RWire.Value} {ps : List Addr}, PAll a G vs ps → vs.length = ps.length
  | [], _, h => by subst h; rfl
  | v :: vs, _, ⟨q, r, e, _, h⟩ => by subst e; simp [pall_len h]
theorem pall_get {a : Adr} {G : Hp} : ∀ {vs : List RWire.Value} {ps : List Addr} {i : Nat} {v : RWire.Value} {p : Addr}, PAll a G vs ps → vs[i]? = some v → ps[i]? = some p → PAt a G v p
  | [], _, _, _, _, _, h, _ => by simp at h
  | v :: vs, _, 0, _, _, ⟨q, r, e, h1, _⟩, h2, h3 => by subst e; cases h2; cases h3; exact h1
  | v :: vs, _, i + 1, _, _, ⟨q, r, e, _, h1⟩, h2, h3 => by subst e; exact pall_get h1 (by simpa using h2) (by simpa using h3)
theorem fit {n : Nat} (h : Nat.ble n 1000 = true) : n ≤ sizeLine := by
  have := Nat.le_of_ble_eq_true h
  rw [sizeLine_eq]
  omega
theorem ifT {c : Bool} {A B : Prop} (hc : c = true) (h : A) : if c = true then A else B := by
  rw [if_pos hc]; exact h
theorem ifF {c : Bool} {A B : Prop} (hc : c = false) (h : B) : if c = true then A else B := by
  rw [hc, if_neg Bool.false_ne_true]; exact h
theorem ifC {c : Bool} {A B : Prop} (h1 : c = true → A) (h2 : c = false → B) : if c = true then A else B := by
  cases c with
  | true => exact ifT rfl (h1 rfl)
  | false => exact ifF rfl (h2 rfl)
theorem decI {i j : Int} : decide (V.int i = V.int j) = decide (i = j) := by
  by_cases h : i = j
  · subst h; simp
  · rw [decide_eq_false h, decide_eq_false (fun z => h (V.int.inj z))]
theorem eqI {i j : Int} (h : i = j) : decide (V.int i = V.int j) = true := by rw [decI]; exact decide_eq_true h
theorem neI {i j : Int} (h : i ≠ j) : decide (V.int i = V.int j) = false := by rw [decI]; exact decide_eq_false h
/-- .. one at a time, what follows told of the heap alone -/
theorem madeR {n : Nat} {C : Addr} {fs : List V → List (Str × V)} {vs : List V} {H : Hp} {x dx : Addr} {R : Hp → Prop} {E : XK} (hl : vs.length = n) (hx : H x = none) (hd : H dx = none) (h : ∀ H', Same H H' → Ins H' x C (fs vs) → R H') :
    spIn n C fs (.ref x :: vs) (upd (upd H dx (.own x)) x (.ins C dx [])) (fun v H2 => v = .non ∧ R H2) E := by
  refine ⟨x, dx, vs, hl, rfl, upd_same, rfl, h _ (fun b o e => ?_) ⟨dx, upd_same⟩⟩
  have n1 : b ≠ x := ne_of_none e hx
  have n2 : b ≠ dx := ne_of_none e hd
  rw [upd_ne n1, upd_ne n1, upd_ne n2]
  exact e
end Zr
end
section
set_option maxRecDepth 100000
set_option maxHeartbeats 2000000
/-! Comprehensions whose elements grow the heap: one reading for all that is walked. -/
namespace Zr
open PySem PySem.Spec PyProof.Rows L2 L2H
def ixs (keep : Nat → Bool) (n : Nat) : List Nat := (List.range n).filter keep
theorem ixs_succ (keep : Nat → Bool) (n : Nat) : ixs keep (n + 1) = ixs keep n ++ if keep n then [n] else [] := by
  unfold ixs
  rw [List.range_succ, List.filter_append]
  cases h : keep n <;> simp [h]
theorem ixs_len (keep : Nat → Bool) (n : Nat) : (ixs keep n).length ≤ n := by
  have := List.length_filter_le keep (List.range n)
  simpa [ixs] using this
theorem ixs_all (n : Nat) : ixs (fun _ => true) n = List.range n := by simp [ixs]
/-- the word of such a loop -/
structure LcAt (G0 H1 : Hp) (D : Addr) (keep : Nat → Bool) (R : Nat → V → Hp → Prop) (i : Nat) (G H : Hp) (ys : List V) : Prop where
  gr : Grow G0 H1 G H
  gD : G D = none
  at_ : H D = some (.lst ys)
  len : ys.length = (ixs keep i).length
  el : ∀ (j : Nat) (y : V), ys[j]? = some y → ∃ k, (ixs keep i)[j]? = some k ∧ R k y G
theorem lc_any {J : It} {n : Nat} {g : TG} {tt : TT} {te : TE} {vs : List Nat} {σ : L2.St} {H1 : Hp} {D : Addr} {Qd : Hp → Prop} {G0 : Hp} (keep : Nat → Bool) (R : Nat → V → Hp → Prop)
    (hD : H1 D = none) (s0 : Same G0 H1) (hz : n ≤ 16000000) (hm : ∀ i y G G', Same G G' → R i y G → R i y G')
    (hgo : ∀ i H, i < n → Same H1 H → J.go i H) (hst : ∀ H, Same H1 H → J.stop n H)
    (turn : ∀ i x G H H', i < n → Grow G0 H1 G H → J.yld i H x H' → ∀ (Yes : V → Hp → Prop) (No : Hp → Prop),
      (keep i = true → ∀ y G' H'', Grow G H G' H'' → R i y G' → Yes y H'') → (keep i = false → ∀ H'', Same H H'' → No H'') →
      g x (wipe σ vs) H' fun σ2 H2 => wipe σ2 vs = wipe σ vs ∧ tt σ2 H2 fun b H3 => if b = true then te σ2 H3 Yes else No H3)
    (hd : ∀ G H' ys, LcAt G0 H1 D keep R n G H' ys → Qd H') :
    ∃ W : Nat → Nat → Hp → Prop, (∃ m, W 0 m (upd H1 D (.lst []))) ∧ ∀ i m H, W i m H →
      (J.stop i H ∧ Qd H) ∨ (J.go i H ∧ ∃ Nx : Hp → Prop, (∀ H', Nx H' → ∃ m', m' < m ∧ W (i + 1) m' H') ∧ ∀ x H', J.yld i H x H' → g x (wipe σ vs) H' fun σ2 H2 => wipe σ2 vs = wipe σ vs ∧ tt σ2 H2 fun b H3 =>
        if b = true then te σ2 H3 fun y H4 => ∃ acc, H4 D = some (.lst acc) ∧ acc.length < sizeLine ∧ Nx (upd H4 D (.lst (acc ++ [y]))) else Nx H3) := by
  refine ⟨fun i m H => m = n - i ∧ i ≤ n ∧ ∃ G ys, LcAt G0 H1 D keep R i G H ys, ⟨n, by simp, Nat.zero_le _, G0, [], ?_⟩, ?_⟩
  · have g0 := sm_none s0 hD
    refine ⟨⟨Same.refl _, fun b o e => ?_, sm_upd hD, fun _ h _ => h⟩, g0, upd_same, by simp [ixs], fun j y e => by simp at e⟩
    rw [upd_ne (ne_of_none e g0)]
    exact s0 b o e
  rintro i m H ⟨rfl, hi, G, ys, L⟩
  by_cases hlt : i < n
  · refine .inr ⟨hgo i H hlt L.gr.same, fun H' => ∃ G ys, LcAt G0 H1 D keep R (i + 1) G H' ys, fun H' p' => ⟨n - (i + 1), by omega, rfl, hlt, p'⟩, fun x H' y => ?_⟩
    refine turn i x G H H' hlt L.gr y _ _ (fun kp y G' H'' gr r => ?_) (fun kp H'' s => ?_)
    · have hD2 : H'' D = some (.lst ys) := gr.same _ _ L.at_
      have gD2 : G' D = none := gr.new D L.gD (by rw [L.at_]; simp)
      have hln := ixs_len keep i
      refine ⟨ys, hD2, by rw [sizeLine_eq, L.len]; omega, G', ys ++ [y], ⟨⟨L.gr.up.trans gr.up, fun b o e => ?_, fun b o e => ?_, fun b h1 h2 => ?_⟩, gD2, upd_same, ?_, fun j z e => ?_⟩⟩
      · rw [upd_ne (ne_of_none e gD2)]
        exact gr.sub b o e
      · rw [upd_ne (ne_of_none e hD)]
        exact gr.same b o (L.gr.same b o e)
      · refine gr.new b (L.gr.new b h1 h2) ?_
        cases e : H1 b with
        | none => exact absurd e h2
        | some o => rw [L.gr.same b o e]; simp
      · rw [ixs_succ, kp, List.length_append, List.length_append, L.len]
        rfl
      · rw [ixs_succ, kp]
        rw [List.getElem?_append] at e
        rw [List.getElem?_append, ← L.len]
        split at e
        · rename_i hj
          rw [if_pos hj]
          obtain ⟨k, h1, h2⟩ := L.el j z e
          exact ⟨k, h1, hm _ _ _ _ gr.up h2⟩
        · rename_i hj
          rw [if_neg hj]
          have h0 : j - ys.length = 0 := by
            cases h0 : j - ys.length with
            | zero => rfl
            | succ m => rw [h0] at e; simp at e
          rw [h0] at e ⊢
          have e' : y = z := by simpa using e
          subst e'
          exact ⟨i, rfl, r⟩
    · refine ⟨G, ys, ⟨L.gr.loose s, L.gD, s _ _ L.at_, ?_, fun j z e => ?_⟩⟩
      · rw [ixs_succ, kp]
        simpa using L.len
      · rw [ixs_succ, kp]
        simpa using L.el j z e
  · have e : i = n := by omega
    subst e
    exact .inl ⟨hst H L.gr.same, hd G H ys L⟩
section
variable {K : PySem.W.Frag} {l : Addr} {xs : List V} {g : TG} {tt : TT} {te : TE} {vs : List Nat} {σ : L2.St} {H1 : Hp} {D : Addr} {Qd : Hp → Prop} {G0 : Hp}
theorem lc_l (keep : Nat → Bool) (R : Nat → V → Hp → Prop) (hl : SqL K H1 l xs) (hD : H1 D = none) (s0 : Same G0 H1) (hz : xs.length ≤ 16000000) (hm : ∀ i y G G', Same G G' → R i y G → R i y G')
    (turn : ∀ i x G H, xs[i]? = some x → Grow G0 H1 G H → ∀ (Yes : V → Hp → Prop) (No : Hp → Prop),
      (keep i = true → ∀ y G' H'', Grow G H G' H'' → R i y G' → Yes y H'') → (keep i = false → ∀ H'', Same H H'' → No H'') →
      g x (wipe σ vs) H fun σ2 H2 => wipe σ2 vs = wipe σ vs ∧ tt σ2 H2 fun b H3 => if b = true then te σ2 H3 Yes else No H3)
    (hd : ∀ G H' ys, LcAt G0 H1 D keep R xs.length G H' ys → Qd H') :
    ∃ W : Nat → Nat → Hp → Prop, (∃ m, W 0 m (upd H1 D (.lst []))) ∧ ∀ i m H, W i m H →
      ((Itl K l).stop i H ∧ Qd H) ∨ ((Itl K l).go i H ∧ ∃ Nx : Hp → Prop, (∀ H', Nx H' → ∃ m', m' < m ∧ W (i + 1) m' H') ∧ ∀ x H', (Itl K l).yld i H x H' → g x (wipe σ vs) H' fun σ2 H2 => wipe σ2 vs = wipe σ vs ∧ tt σ2 H2 fun b H3 =>
        if b = true then te σ2 H3 fun y H4 => ∃ acc, H4 D = some (.lst acc) ∧ acc.length < sizeLine ∧ Nx (upd H4 D (.lst (acc ++ [y]))) else Nx H3) :=
  lc_any keep R hD s0 hz hm (fun i H hi s => ⟨xs, xs[i], s.seq hl, List.getElem?_eq_getElem hi⟩) (fun H s => ⟨xs, s.seq hl, Nat.le_refl _⟩)
    (fun i x G H H' hi gr ⟨e, y⟩ => by subst e; exact turn i x G H' (y xs (gr.same.seq hl)) gr) hd
theorem sm_tup {K : PySem.W.Frag} {H H' : Hp} {p : Addr} {xs : List V} (s : Same H H') (h : SqT K H p xs) : SqT K H' p xs := by
  rcases h with h | h
  · rcases h with h | ⟨o, h⟩
    · exact .inl (.inl (s _ _ h))
    · exact .inl (.inr ⟨o, s _ _ h⟩)
  · exact .inr h
theorem lc_t (keep : Nat → Bool) (R : Nat → V → Hp → Prop) (hl : SqT K H1 l xs) (hD : H1 D = none) (s0 : Same G0 H1) (hz : xs.length ≤ 16000000) (hm : ∀ i y G G', Same G G' → R i y G → R i y G')
    (turn : ∀ i x G H, xs[i]? = some x → Grow G0 H1 G H → ∀ (Yes : V → Hp → Prop) (No : Hp → Prop),
      (keep i = true → ∀ y G' H'', Grow G H G' H'' → R i y G' → Yes y H'') → (keep i = false → ∀ H'', Same H H'' → No H'') →
      g x (wipe σ vs) H fun σ2 H2 => wipe σ2 vs = wipe σ vs ∧ tt σ2 H2 fun b H3 => if b = true then te σ2 H3 Yes else No H3)
    (hd : ∀ G H' ys, LcAt G0 H1 D keep R xs.length G H' ys → Qd H') :
    ∃ W : Nat → Nat → Hp → Prop, (∃ m, W 0 m (upd H1 D (.lst []))) ∧ ∀ i m H, W i m H →
      ((Itt K l).stop i H ∧ Qd H) ∨ ((Itt K l).go i H ∧ ∃ Nx : Hp → Prop, (∀ H', Nx H' → ∃ m', m' < m ∧ W (i + 1) m' H') ∧ ∀ x H', (Itt K l).yld i H x H' → g x (wipe σ vs) H' fun σ2 H2 => wipe σ2 vs = wipe σ vs ∧ tt σ2 H2 fun b H3 =>
        if b = true then te σ2 H3 fun y H4 => ∃ acc, H4 D = some (.lst acc) ∧ acc.length < sizeLine ∧ Nx (upd H4 D (.lst (acc ++ [y]))) else Nx H3) :=
  lc_any keep R hD s0 hz hm (fun i H hi s => ⟨xs, xs[i], sm_tup s hl, List.getElem?_eq_getElem hi⟩) (fun H s => ⟨xs, sm_tup s hl, Nat.le_refl _⟩)
    (fun i x G H H' hi gr ⟨e, y⟩ => by subst e; exact turn i x G H' (y xs (sm_tup gr.same hl)) gr) hd
theorem lc_r {lo : Int} {n : Nat} (R : Nat → V → Hp → Prop) (hD : H1 D = none) (s0 : Same G0 H1) (hz : n ≤ 16000000) (hm : ∀ i y G G', Same G G' → R i y G → R i y G')
    (turn : ∀ i G H, i < n → Grow G0 H1 G H → ∀ (Yes : V → Hp → Prop) (No : Hp → Prop), (∀ y G' H'', Grow G H G' H'' → R i y G' → Yes y H'') →
      g (.int (lo + i)) (wipe σ vs) H fun σ2 H2 => wipe σ2 vs = wipe σ vs ∧ tt σ2 H2 fun b H3 => if b = true then te σ2 H3 Yes else No H3)
    (hd : ∀ G H' ys, LcAt G0 H1 D (fun _ => true) R n G H' ys → Qd H') :
    ∃ W : Nat → Nat → Hp → Prop, (∃ m, W 0 m (upd H1 D (.lst []))) ∧ ∀ i m H, W i m H →
      ((Itr lo n).stop i H ∧ Qd H) ∨ ((Itr lo n).go i H ∧ ∃ Nx : Hp → Prop, (∀ H', Nx H' → ∃ m', m' < m ∧ W (i + 1) m' H') ∧ ∀ x H', (Itr lo n).yld i H x H' → g x (wipe σ vs) H' fun σ2 H2 => wipe σ2 vs = wipe σ vs ∧ tt σ2 H2 fun b H3 =>
        if b = true then te σ2 H3 fun y H4 => ∃ acc, H4 D = some (.lst acc) ∧ acc.length < sizeLine ∧ Nx (upd H4 D (.lst (acc ++ [y]))) else Nx H3) :=
  lc_any (fun _ => true) R hD s0 hz hm (fun i H hi s => hi) (fun H s => Nat.le_refl _)
    (fun i x G H H' hi gr ⟨e, y⟩ Yes No k1 k2 => by subst e y; exact turn i G H' hi gr Yes No (k1 rfl)) hd
theorem lc_s {z : Str} (R : Nat → V → Hp → Prop) (hD : H1 D = none) (s0 : Same G0 H1) (hz : z.cps.size ≤ 16000000) (hm : ∀ i y G G', Same G G' → R i y G → R i y G')
    (turn : ∀ i c G H, z.cps[i]? = some c → Grow G0 H1 G H → ∀ (Yes : V → Hp → Prop) (No : Hp → Prop), (∀ y G' H'', Grow G H G' H'' → R i y G' → Yes y H'') →
      g (.str ⟨#[c]⟩) (wipe σ vs) H fun σ2 H2 => wipe σ2 vs = wipe σ vs ∧ tt σ2 H2 fun b H3 => if b = true then te σ2 H3 Yes else No H3)
    (hd : ∀ G H' ys, LcAt G0 H1 D (fun _ => true) R z.cps.size G H' ys → Qd H') :
    ∃ W : Nat → Nat → Hp → Prop, (∃ m, W 0 m (upd H1 D (.lst []))) ∧ ∀ i m H, W i m H →
      ((Its z).stop i H ∧ Qd H) ∨ ((Its z).go i H ∧ ∃ Nx : Hp → Prop, (∀ H', Nx H' → ∃ m', m' < m ∧ W (i + 1) m' H') ∧ ∀ x H', (Its z).yld i H x H' → g x (wipe σ vs) H' fun σ2 H2 => wipe σ2 vs = wipe σ vs ∧ tt σ2 H2 fun b H3 =>
        if b = true then te σ2 H3 fun y H4 => ∃ acc, H4 D = some (.lst acc) ∧ acc.length < sizeLine ∧ Nx (upd H4 D (.lst (acc ++ [y]))) else Nx H3) :=
  lc_any (fun _ => true) R hD s0 hz hm (fun i H hi s => hi) (fun H s => Nat.le_refl _)
    (fun i x G H H' hi gr ⟨e, c, hc, y⟩ Yes No k1 k2 => by subst e y; exact turn i c G H' hc gr Yes No (k1 rfl)) hd
/-- over enumerate: the pair is a new tuple -/
theorem lc_e (keep : Nat → Bool) (R : Nat → V → Hp → Prop) (hl : SqL K H1 l xs) (hD : H1 D = none) (s0 : Same G0 H1) (hz : xs.length ≤ 16000000) (hm : ∀ i y G G', Same G G' → R i y G → R i y G')
    (turn : ∀ i x t G H, xs[i]? = some x → Grow G0 H1 G H → H t = none → ∀ (Yes : V → Hp → Prop) (No : Hp → Prop),
      (keep i = true → ∀ y G' H'', Grow G H G' H'' → R i y G' → Yes y H'') → (keep i = false → ∀ H'', Same H H'' → No H'') →
      g (.ref t) (wipe σ vs) (upd H t (.tup [.int (i : Nat), x])) fun σ2 H2 => wipe σ2 vs = wipe σ vs ∧ tt σ2 H2 fun b H3 => if b = true then te σ2 H3 Yes else No H3)
    (hd : ∀ G H' ys, LcAt G0 H1 D keep R xs.length G H' ys → Qd H') :
    ∃ W : Nat → Nat → Hp → Prop, (∃ m, W 0 m (upd H1 D (.lst []))) ∧ ∀ i m H, W i m H →
      ((Ite K l).stop i H ∧ Qd H) ∨ ((Ite K l).go i H ∧ ∃ Nx : Hp → Prop, (∀ H', Nx H' → ∃ m', m' < m ∧ W (i + 1) m' H') ∧ ∀ x H', (Ite K l).yld i H x H' → g x (wipe σ vs) H' fun σ2 H2 => wipe σ2 vs = wipe σ vs ∧ tt σ2 H2 fun b H3 =>
        if b = true then te σ2 H3 fun y H4 => ∃ acc, H4 D = some (.lst acc) ∧ acc.length < sizeLine ∧ Nx (upd H4 D (.lst (acc ++ [y]))) else Nx H3) :=
  lc_any keep R hD s0 hz hm (fun i H hi s => ⟨xs, xs[i], s.seq hl, List.getElem?_eq_getElem hi⟩) (fun H s => ⟨xs, s.seq hl, Nat.le_refl _⟩)
    (fun i x G H H' hi gr ⟨t, x', e, ht, eh, y⟩ => by subst e eh; exact turn i x' t G H (y xs (gr.same.seq hl)) gr ht) hd
end
/-- every element, no test: the list made is told by its elements -/
theorem LcAt.each {G0 H1 : Hp} {D : Addr} {R : Nat → V → Hp → Prop} {n : Nat} {G H : Hp} {ys : List V} (L : LcAt G0 H1 D (fun _ => true) R n G H ys) : ys.length = n ∧ ∀ (j : Nat) (y : V), ys[j]? = some y → R j y G := by
  have h1 := L.len
  rw [ixs_all, List.length_range] at h1
  refine ⟨h1, fun j y e => ?_⟩
  obtain ⟨k, h2, h3⟩ := L.el j y e
  have hj : j < ys.length := (List.getElem?_eq_some_iff.mp e).1
  rw [ixs_all, List.getElem?_range (by omega)] at h2
  cases h2
  exact h3
/-- .. where the elements are values of no heap -/
theorem LcAt.vals {G0 H1 : Hp} {D : Addr} {f : Nat → V} {n : Nat} {G H : Hp} {ys : List V} (L : LcAt G0 H1 D (fun _ => true) (fun i y _ => y = f i) n G H ys) : ys = (List.range n).map f := by
  obtain ⟨h1, h2⟩ := L.each
  apply List.ext_getElem?
  intro j
  rw [List.getElem?_map]
  by_cases hj : j < n
  · rw [List.getElem?_range hj, List.getElem?_eq_getElem (by omega)]
    exact congrArg some (h2 j _ (List.getElem?_eq_getElem (by omega)))
  · rw [List.getElem?_eq_none (by omega), List.getElem?_eq_none (by simp; omega)]
    rfl
theorem LcAt.valsF {G0 H1 : Hp} {D : Addr} {keep : Nat → Bool} {f : Nat → V} {n : Nat} {G H : Hp} {ys : List V} (L : LcAt G0 H1 D keep (fun i y _ => y = f i) n G H ys) : ys = (ixs keep n).map f := by
  apply List.ext_getElem?
  intro j
  rw [List.getElem?_map]
  cases e : ys[j]? with
  | some y =>
    obtain ⟨k, h1, h2⟩ := L.el j y e
    rw [h1, h2]
    rfl
  | none =>
    have hj := List.getElem?_eq_none_iff.mp e
    rw [List.getElem?_eq_none (by rw [← L.len]; exact hj)]
    rfl
theorem filter_ix {α : Type} (p : α → Bool) (d : α) : ∀ l : List α, (ixs (fun i => p (l.getD i d)) l.length).length = (l.filter p).length := fun l => by
  have h : ∀ n, n ≤ l.length → (ixs (fun i => p (l.getD i d)) n).length = ((l.take n).filter p).length := by
    intro n
    induction n with
    | zero => intro _; simp [ixs]
    | succ n ih =>
      intro hn
      have hlt : n < l.length := hn
      have e : l.take (n + 1) = l.take n ++ [l[n]] := by rw [List.take_succ, List.getElem?_eq_getElem hlt]; rfl
      rw [ixs_succ, e, List.filter_append, List.length_append, List.length_append, ih (Nat.le_of_lt hlt)]
      congr 1
      have e2 : l.getD n d = l[n] := by rw [List.getD_eq_getElem?_getD, List.getElem?_eq_getElem hlt]; rfl
      rw [e2]
      cases hp : p l[n] <;> simp [hp]
  have := h l.length (Nat.le_refl _)
  rw [this, List.take_length]
end Zr
end
section
set_option maxRecDepth 100000
set_option maxHeartbeats 2000000
/-! Lists and tuples of whole numbers as data; slices. -/
namespace Zr
open PySem PySem.Spec PyProof.Rows L2 L2H
open Zp (oi)
theorem dpAll_ints {K : PySem.W.Frag} {H : Hp} : ∀ ns : List Int, DpAll K H (ns.map V.int) (ns.map PyData.int)
  | [] => .nil
  | n :: ns => .cons (.int n) (dpAll_ints ns)
theorem eqvAll_ints : ∀ xs ys : List Int, PyData.eqvAll (xs.map PyData.int) (ys.map PyData.int) = decide (xs = ys)
  | [], [] => rfl
  | [], _ :: _ => rfl
  | _ :: _, [] => rfl
  | x :: xs, y :: ys => by
    show (PyData.eqv (.int x) (.int y) && PyData.eqvAll (xs.map PyData.int) (ys.map PyData.int)) = _
    rw [eqvAll_ints xs ys]
    show ((x == y) && decide (xs = ys)) = decide (x :: xs = y :: ys)
    by_cases h : x = y
    · subst h; simp
    · simp [h]
theorem canLay_ints : ∀ xs : List Int, PyData.canLayAll0 (xs.map PyData.int) = true
  | [] => rfl
  | x :: xs => by
    show (true && PyData.canLayAll0 (xs.map PyData.int)) = true
    rw [canLay_ints xs]
    rfl
theorem depth_ints : ∀ xs : List Int, PyData.depthAll (xs.map PyData.int) = 0
  | [] => rfl
  | x :: xs => by
    show max 0 (PyData.depthAll (xs.map PyData.int)) = 0
    rw [depth_ints xs]
    rfl
theorem shaped_ints (xs : List Int) : SeqAt.shaped (.list (xs.map PyData.int)) = true := by
  show (PyData.canLayAll0 (xs.map PyData.int) && decide (PyData.depthAll (xs.map PyData.int) + 1 ≤ 64)) = true
  rw [canLay_ints, depth_ints]
  rfl
theorem shaped_intsT (xs : List Int) : SeqAt.shaped (.tuple (xs.map PyData.int)) = true := by
  show (PyData.canLayAll0 (xs.map PyData.int) && decide (PyData.depthAll (xs.map PyData.int) + 1 ≤ 64)) = true
  rw [canLay_ints, depth_ints]
  rfl
theorem cut_mid {xs : List V} {lo hi : Nat} (h1 : hi ≤ xs.length) : cutV xs (some (lo : Int)) (some (hi : Int)) = (xs.drop lo).take (hi - lo) := by
  unfold cutV
  rw [HT.sIx_nat, HT.sIx_nat]
  by_cases h : lo ≤ xs.length
  · rw [Nat.min_eq_left h1, Nat.min_eq_left h]
  · rw [Nat.min_eq_left h1, Nat.min_eq_right (by omega), List.drop_eq_nil_of_le (by omega), List.drop_eq_nil_of_le (by omega), List.take_nil, List.take_nil]
/-- all that was tracked but r is as it was -/
def But (r : Addr) (H H' : Hp) : Prop := ∀ b o, b ≠ r → H b = some o → H' b = some o
theorem But.refl {r : Addr} {H : Hp} : But r H H := fun _ _ _ h => h
theorem But.trans {r : Addr} {H H1 H2 : Hp} (x : But r H H1) (y : But r H1 H2) : But r H H2 := fun b o n h => y b o n (x b o n h)
theorem But.same {r : Addr} {H H1 : Hp} (x : Same H H1) : But r H H1 := fun b o _ h => x b o h
theorem But.upd {r : Addr} {H : Hp} {o : HO} : But r H (upd H r o) := fun b u n h => by rw [upd_ne n]; exact h
/-- the reader: its octets, how many were taken -/
abbrev Rdr (a : Adr) (H : Hp) (r l : Addr) (i : Nat) : Prop := Ins H r a.reader (fReader (.ref l) (.int (i : Int)))
theorem Rdr.ne {a : Adr} {H : Hp} {r l : Addr} {i : Nat} {u : RWire.Text} (h : Rdr a H r l i) (o : Oc H l u) : l ≠ r := by
  obtain ⟨dx, e⟩ := h
  exact ne_of o e (by intro z; cases z)
/-- what stays grows; of the rest only r changes -/
structure GrowB (r : Addr) (G H G' H' : Hp) : Prop where
  up : Same G G'
  sub : Same G' H'
  but : But r H H'
  new : ∀ b, G b = none → H b ≠ none → G' b = none
theorem GrowB.of {r : Addr} {G H G' H' : Hp} (x : Grow G H G' H') : GrowB r G H G' H' := ⟨x.up, x.sub, .same x.same, x.new⟩
theorem But.some {r : Addr} {H H1 : Hp} (x : But r H H1) (hr : H1 r ≠ none) {b : Addr} (h : H b ≠ none) : H1 b ≠ none := by
  by_cases q : b = r
  · rw [q]; exact hr
  · cases e : H b with
    | none => exact absurd e h
    | some o => rw [x b o q e]; simp
theorem GrowB.trans {r : Addr} {G H G1 H1 G2 H2 : Hp} (x : GrowB r G H G1 H1) (y : GrowB r G1 H1 G2 H2) (hr : H1 r ≠ none) : GrowB r G H G2 H2 :=
  ⟨x.up.trans y.up, y.sub, x.but.trans y.but, fun b h1 h2 => y.new b (x.new b h1 h2) (x.but.some hr h2)⟩
theorem GrowB.refl {r : Addr} {G H : Hp} (s : Same G H) : GrowB r G H G H := .of (Grow.refl s)
theorem Ins.some {H : Hp} {p C : Addr} {fs : List (Str × V)} (h : Ins H p C fs) : H p ≠ none := by
  obtain ⟨dx, e⟩ := h
  rw [e]; simp
/-- what stays, after a change at r alone (r does not stay) -/
theorem GrowB.moved {r : Addr} {G H H' : Hp} (s : Same G H) (x : But r H H') (g : G r = none) : GrowB r G H G H' :=
  ⟨Same.refl _, fun b o e => x b o (fun z => by rw [z, g] at e; cases e) (s b o e), x, fun _ h _ => h⟩
end Zr
end
section
set_option maxRecDepth 100000
set_option maxHeartbeats 2000000
/-! The defs of pieces, one by one. -/
namespace Zr
open PySem PySem.Spec PyProof.Rows L2 L2H
open Zp (oi)
section
variable {P : Program} {w : World} {K : PySem.W.Frag} {mg : Str → Option Value} {base : Heap} {a : Adr}
def fs2 (f : V → V → List (Str × V)) : List V → List (Str × V) := fun us => f (us.getD 0 .non) (us.getD 1 .non)
theorem m_Piece (T : Txt K mg a) : MakW P w K mg base 1 "Piece" a.piece (spIn 2 a.piece (fs2 fPiece)) := by
  refine makW T.c_Piece sc_PieceInit lenIn fun f cl pn cdv A outer s H vs Q E hr hw h => ?_
  obtain ⟨p, dx, us, hl, rfl, hp, q⟩ := h
  match us, hl with
  | [k, c], _ =>
    refine ⟨_, (pss_cons (ps_f T.c_Piece.cl T.n_Piece_kind (pv 0) (pv 1))
    (pss_one (ps_f T.c_Piece.cl T.n_Piece_content (pv 0) (pv 2)))), ?_⟩
    refine ⟨_, rfl, _, rfl, p, dx, _, rfl, hp, rfl, _, rfl, _, rfl, p, dx, _, rfl, upd_same, rfl, ?_⟩
    rw [upd_upd]
    exact q
theorem m_Reader (T : Txt K mg a) : Mak P w K mg base 1 "Reader" a.reader (spIn 1 a.reader fun us => fReader (us.getD 0 .non) (.int 0)) := by
  refine mak T.c_Reader sc_ReaderInit lenIn fun f cdv A outer s H vs Q E hr h => ?_
  obtain ⟨p, dx, us, hl, rfl, hp, q⟩ := h
  match us, hl with
  | [k], _ =>
    refine ⟨_, (pss_cons (ps_f T.c_Reader.cl T.n_Reader_octets (pv 0) (pv 1))
    (pss_one (ps_f T.c_Reader.cl T.n_Reader_at (pv 0) pe_int))), ?_⟩
    refine ⟨_, rfl, _, rfl, p, dx, _, rfl, hp, rfl, _, rfl, p, dx, _, rfl, upd_same, rfl, ?_⟩
    rw [upd_upd]
    exact q
/-- a piece of so plain a content -/
def spPc (a : Adr) (k : Int) (c : V) : Hp → VK → Prop := fun H Q => ∀ H' p, H p = none → Same H H' → Pc a H' p k c → Q (.ref p) H'
theorem c_nothing (T : Txt K mg a) : Cal P w K mg base 3 "nothing" (sp0 fun H Q E => spPc a 0 (.int 0) H Q) := by
  refine cal T.d_nothing sc_nothing len0 fun f cdv A outer s H vs Q E hr h => ?_
  obtain ⟨rfl, q⟩ := h
  refine ⟨_, (pss_one (ps_ret (pe_mkw (m_Piece T) (roomH_of hr) (by decide) (.inl rfl) rfl (pa_cons (pe_gc rfl T.k_NOTHING) (pa_cons pe_int pa_nil))))), ?_⟩
  exact made rfl q
theorem c_truth (T : Txt K mg a) : Cal P w K mg base 3 "truth" (sp1 fun x H Q E => ∃ b, x = .bl b ∧ spPc a (if b then 3 else 2) (.int 0) H Q) := by
  refine cal T.d_truth sc_truth len1 fun f cdv A outer s H vs Q E hr h => ?_
  obtain ⟨_, rfl, b, rfl, q⟩ := h
  refine ⟨_, (pss_one (ps_ret (pe_mkw (m_Piece T) (roomH_of hr) (by decide) (.inl rfl) rfl (pa_cons (pe_ifExp (pt_val (pv 0)) (pe_gc rfl T.k_TRUE) (pe_gc rfl T.k_FALSE)) (pa_cons pe_int pa_nil))))), ?_⟩
  refine ⟨_, rfl, _, rfl, ?_⟩
  cases b with
  | false => exact iteF (made rfl q)
  | true => exact iteT (made rfl q)
theorem c_number (T : Txt K mg a) : Cal P w K mg base 3 "number" (sp1 fun x H Q E => ∃ i, x = .int i ∧ spPc a 4 (.int i) H Q) := by
  refine cal T.d_number sc_number len1 fun f cdv A outer s H vs Q E hr h => ?_
  obtain ⟨_, rfl, i, rfl, q⟩ := h
  refine ⟨_, (pss_one (ps_ret (pe_mkw (m_Piece T) (roomH_of hr) (by decide) (.inl rfl) rfl (pa_cons (pe_gc rfl T.k_INTEGER) (pa_cons (pv 0) pa_nil))))), ?_⟩
  exact ⟨_, rfl, made rfl q⟩
theorem c_row (T : Txt K mg a) : CalW P w K mg base 3 "row" (sp1 fun x H Q E => ∃ l, x = .ref l ∧ spPc a 7 (.ref l) H Q) := by
  refine calW T.d_row sc_row len1 fun f cl pn cdv A outer s H vs Q E hr hw h => ?_
  obtain ⟨_, rfl, i, rfl, q⟩ := h
  refine ⟨_, (pss_one (ps_ret (pe_mkw (m_Piece T) hr (by decide) hw rfl (pa_cons (pe_gc rfl T.k_LIST) (pa_cons (pv 0) pa_nil))))), ?_⟩
  exact ⟨_, rfl, made rfl q⟩
/-- octets in a new list -/
def spOc (ns : List Int) : Hp → VK → Prop := fun H Q => ∀ H' l, H l = none → Same H H' → H' l = some (.lst (ns.map V.int)) → Q (.ref l) H'
theorem c_codes (T : Txt K mg a) : CalW P w K mg base 1 "codes" (sp1 fun x H Q E => ∃ s, x = .str s ∧ s.cps.size ≤ 1000 ∧ spOc (cI s) H Q) := by
  refine calW T.d_codes sc_codes len1 fun f cl pn cdv A outer s H vs Q E hr hw h => ?_
  obtain ⟨_, rfl, z, rfl, hz, q⟩ := h
  refine ⟨_, (pss_one (ps_ret (pe_lcW (own := [("sign", 1)]) (g := (gName 1)) hw sc_codes.nd (pi_strW (pv 0)) (blkOk_by (N := ["text", "sign"]) (sc := defScope s_codes) (by decide +kernel)) (fun _ _ _ _ _ => (pg_name (i := 1) sc_codes.nd rfl (Or.inl rfl))) (fun _ _ _ _ _ => (pe_callB call_ord rfl T.b_ord (by decide +kernel) (pa_cons (pv 1) pa_nil)))))), ?_⟩
  refine ⟨_, rfl, z, rfl, fun D hD => lc_s (G0 := H) (fun i y _ => y = V.int (((z.cps.toList.getD i 0 : Nat) : Nat) : Int)) hD (Same.refl _) (by omega) (fun i y G G' _ h => h) ?_ ?_⟩
  · intro i c G H' hc gr Yes No k
    refine ⟨rfl, _, rfl, _, rfl, rfl, k _ G H' (Grow.refl gr.sub) ?_⟩
    have e : z.cps.toList[i]? = some c := by rw [Array.getElem?_toList]; exact hc
    rw [List.getD_eq_getElem?_getD, e]
    rfl
  · intro G H' ys L
    refine q H' D hD L.gr.same ?_
    rw [L.at_, L.vals]
    congr 2
    apply List.ext_getElem?
    intro i
    unfold cI
    rw [List.map_map, List.getElem?_map, List.getElem?_map]
    by_cases hi : i < z.cps.size
    · rw [List.getElem?_range hi, List.getElem?_eq_getElem (by simpa using hi)]
      simp [List.getD_eq_getElem?_getD, hi]
    · rw [List.getElem?_eq_none (by simp; omega), List.getElem?_eq_none (by simp; omega)]
      rfl
/-- a piece that is kept, all below it -/
def spPA (a : Adr) (v : RWire.Value) (G : Hp) : Hp → VK → Prop := fun H Q => ∀ G' H' p, Grow G H G' H' → H p = none → PAt a G' v p → Q (.ref p) H'
theorem oc_of {G : Hp} {l : Addr} {ns : List Int} {u : RWire.Text} (h : G l = some (.lst (ns.map V.int))) (e : ns = oi u) : Oc G l u := by
  subst e; exact h
theorem c_text (T : Txt K mg a) : CalW P w K mg base 3 "text" (sp1 fun x H Q E => ∃ s u G, x = .str s ∧ s.cps.size ≤ 1000 ∧ cI s = oi u ∧ Same G H ∧ spPA a (.text u) G H Q) := by
  refine calW T.d_text sc_text len1 fun f cl pn cdv A outer s H vs Q E hr hw h => ?_
  obtain ⟨_, rfl, z, u, G, rfl, hz, hu, sG, q⟩ := h
  refine ⟨_, (pss_one (ps_ret (pe_mkw (m_Piece T) hr (by decide) hw rfl (pa_cons (pe_gc rfl T.k_TEXT) (pa_cons (pe_cw (c_codes T) hr (by decide) hw rfl (pa_cons (pv 0) pa_nil)) pa_nil))))), ?_⟩
  refine ⟨_, rfl, _, rfl, z, rfl, hz, fun H1 l hl s1 e1 => made rfl fun H2 p hp s2 h2 => ?_⟩
  obtain ⟨G1, x1, y1, z1⟩ := grow_obj (Grow.refl sG) hl s1 e1
  obtain ⟨G2, x2, y2, z2⟩ := grow_pc x1 hp s2 h2
  exact q G2 H2 p x2 (sm_none s1 hp) ⟨l, z2, oc_of (y2 _ _ z1) hu⟩
theorem c_number_octets (T : Txt K mg a) : CalW P w K mg base 1 "number_octets" (sp2 fun x y H Q E => ∃ (i : Int) (m : Nat), x = .int i ∧ y = .int m ∧ m ≤ 8 ∧ spOc ((List.range m).map fun p => Zp.octAt i p) H Q) := by
  refine calW T.d_number_octets sc_number_octets len2 fun f cl pn cdv A outer s H vs Q E hr hw h => ?_
  obtain ⟨_, _, rfl, i, m, rfl, rfl, hm, q⟩ := h
  refine ⟨_, (pss_one (ps_ret (pe_lcW (own := [("place", 2)]) (g := (gName 2)) hw sc_number_octets.nd (pi_range1W rfl T.b_range (pa_cons (pv 1) pa_nil)) (blkOk_by (N := ["own", "many", "place"]) (sc := defScope s_number_octets) (by decide +kernel)) (fun _ _ _ _ _ => (pg_name (i := 2) sc_number_octets.nd rfl (Or.inl rfl))) (fun _ _ _ _ _ => (pe_op op_and (pe_op op_shr (pv 0) (pe_op op_mul pe_int (pv 2))) pe_int))))), ?_⟩
  refine ⟨_, rfl, _, rfl, by omega, by omega, fun D hD => lc_r (G0 := H) (fun i' y _ => y = V.int (Zp.octAt i i')) hD (Same.refl _) (by omega) (fun i y G G' _ h => h) ?_ ?_⟩
  · intro p G H' hp gr Yes No k
    refine ⟨rfl, _, rfl, _, rfl, _, _, rfl, rfl, .inl ⟨by decide, by decide⟩, _, _, rfl, rfl, by omega, _, _, rfl, rfl, k _ G H' (Grow.refl gr.sub) ?_⟩
    have e : ((8 : Int) * (0 + (p : Int))).toNat = 8 * p := by omega
    show V.int (Builtin.bitAnd (i / 2 ^ ((8 : Int) * (0 + (p : Int))).toNat) 255) = _
    rw [bitAnd_m8, e]
    rfl
  · intro G H' ys L
    refine q H' D hD L.gr.same ?_
    rw [L.at_, L.vals, List.map_map]
    rfl
theorem c_counted (T : Txt K mg a) : CalW P w K mg base 2 "counted" (sp1 fun x H Q E => ∃ (l : Addr) (u : RWire.Text), x = .ref l ∧ Oc H l u ∧ u.length ≤ 4000000 ∧ spOc (oi (RWire.writeText u)) H Q) := by
  refine calW T.d_counted sc_counted len1 fun f cl pn cdv A outer s H vs Q E hr hw h => ?_
  obtain ⟨_, rfl, l, u, rfl, hl, hu, q⟩ := h
  refine ⟨_, (pss_one (ps_ret (pe_op op_cat (pe_cw (c_number_octets T) hr (by decide) hw rfl (pa_cons (pe_callB call_len_seq rfl T.b_len (by decide +kernel) (pa_cons (pv 0) pa_nil)) (pa_cons pe_int pa_nil))) (pe_callTy call_list_of rfl T.b_list (by decide +kernel) (pa_cons (pv 0) pa_nil))))), ?_⟩
  have hn : (oi u).length = u.length := Zp.oi_len u
  refine ⟨_, rfl, l, _, rfl, .inl (SqL.of hl), _, _, rfl, ⟨_, 4, rfl, rfl, by decide, fun H1 l1 n1 s1 e1 => ⟨_, rfl, l, _, rfl, .inl (SqL.of (s1 _ _ hl)), fun l2 n2 => ⟨_, _, _, _, rfl, rfl, (by rw [upd_ne (ne_of_none e1 n2)]; exact e1), upd_same, ?_, fun l3 n3 => ?_⟩⟩⟩⟩
  · rw [sizeLine_eq]
    simp [hn]
    omega
  · refine q _ l3 (sm_none s1 (upd_none n3).2) ((s1.trans (sm_upd n2)).trans (sm_upd n3)) ?_
    rw [upd_same]
    congr 2
    unfold RWire.writeText RWire.writeCount
    rw [Zp.oi_app, Zp.oi_low, List.map_append]
    simp [hn]
end
end Zr
end
section
set_option maxRecDepth 100000
set_option maxHeartbeats 2000000
/-! The defs of pieces: words, octets and numbers taken. -/
namespace Zr
open PySem PySem.Spec PyProof.Rows L2 L2H
open Zp (oi)
section
variable {P : Program} {w : World} {K : PySem.W.Frag} {mg : Str → Option Value} {base : Heap} {a : Adr}
/-- is this value this word? -/
def isWord (v : RWire.Value) (s : Str) : Bool := match v with
  | .text u => decide (oi u = cI s)
  | _ => false
/-- the kind, and the content, that a value's piece has -/
def knd : RWire.Value → Int
  | .nothing => 0 | .null => 1 | .bool b => if b then 3 else 2 | .int _ => 4 | .big _ => 5 | .text _ => 6 | .list _ => 7 | .record _ => 8 | .octets _ => 10 | .wide _ => 11
theorem pat_kind {H : Hp} : ∀ {v : RWire.Value} {p : Addr}, PAt a H v p → ∃ c, Pc a H p (knd v) c
  | .nothing, _, h => ⟨_, h⟩
  | .null, _, h => ⟨_, h⟩
  | .bool _, _, h => ⟨_, h⟩
  | .int _, _, h => ⟨_, h⟩
  | .text _, _, ⟨l, h, _⟩ => ⟨_, h⟩
  | .list _, _, ⟨l, ps, h, _⟩ => ⟨_, h⟩
  | .record _, _, ⟨l, ts, h, _⟩ => ⟨_, h⟩
  | .big _, _, h => h.elim
  | .octets _, _, h => h.elim
  | .wide _, _, h => h.elim
theorem knd_text {v : RWire.Value} (h : knd v = 6) : ∃ u, v = .text u := by
  cases v with
  | text u => exact ⟨u, rfl⟩
  | bool b => cases b <;> cases h
  | _ => cases h
theorem knd_list {v : RWire.Value} (h : knd v = 7) : ∃ u, v = .list u := by
  cases v with
  | list u => exact ⟨u, rfl⟩
  | bool b => cases b <;> cases h
  | _ => cases h
theorem knd_int {v : RWire.Value} (h : knd v = 4) : ∃ u, v = .int u := by
  cases v with
  | int u => exact ⟨u, rfl⟩
  | bool b => cases b <;> cases h
  | _ => cases h
theorem c_is_word (T : Txt K mg a) : Cal P w K mg base 2 "is_word" (sp2 fun x y H Q E => ∃ p v s, x = .ref p ∧ y = .str s ∧ PAt a H v p ∧ s.cps.size ≤ 1000 ∧ ∀ H', Same H H' → Q (.bl (isWord v s)) H') := by
  refine cal T.d_is_word sc_is_word len2 fun f cdv A outer s H vs Q E hr h => ?_
  obtain ⟨_, _, rfl, p, v, z, rfl, rfl, hp, hz, q⟩ := h
  refine ⟨_, (pss_one (ps_ret (pe_and (pe_cmpR op_eq (pe_f T.c_Piece.cl T.n_Piece_kind (pv 0)) (pe_gc rfl T.k_TEXT) (nomark _)) (pe_one (pe_cmpR (op_eqD hr.units) (pe_callTy call_list_of rfl T.b_list (by decide +kernel) (pa_cons (pe_f T.c_Piece.cl T.n_Piece_content (pv 0)) pa_nil)) (pe_cw (c_codes T) (roomH_of hr) (by decide) (.inl rfl) rfl (pa_cons (pv 1) pa_nil)) (nomark _)))))), ?_⟩
  obtain ⟨c, dx, hk⟩ := pat_kind hp
  refine ⟨_, rfl, p, dx, _, _, rfl, hk, rfl, rfl, _, rfl, ?_⟩
  by_cases h6 : knd v = 6
  · rw [if_pos (by rw [h6]; rfl)]
    obtain ⟨u, rfl⟩ := knd_text h6
    obtain ⟨l, ⟨dx2, h2⟩, h3⟩ := hp
    refine ⟨_, rfl, p, dx2, _, _, rfl, h2, rfl, l, _, rfl, .inl (SqL.of h3), fun l1 n1 => ⟨_, rfl, _, rfl, z, rfl, hz, fun H1 l2 n2 s2 e2 => ?_⟩⟩
    refine ⟨.list ((oi u).map .int), .list ((cI z).map .int), .lst (SqL.of (s2 _ _ upd_same)) (dpAll_ints _), .lst (SqL.of e2) (dpAll_ints _), shaped_ints _, shaped_ints _, ?_⟩
    have e : PyData.eqv (.list ((oi u).map .int)) (.list ((cI z).map .int)) = isWord (.text u) z := eqvAll_ints _ _
    rw [e]
    exact q _ ((sm_upd n1).trans s2)
  · have e : isWord v z = false := by
      cases v with
      | text u => exact absurd rfl h6
      | _ => rfl
    rw [if_neg (by simpa using h6)]
    rw [e] at q
    exact q H (Same.refl _)
theorem c_record (T : Txt K mg a) : Cal P w K mg base 3 "record" (sp1 fun x H Q E => ∃ (l : Addr) (ts : List Addr) (es : List (RWire.Text × RWire.Value)) (G : Hp), x = .ref l ∧ H l = some (.lst (ts.map V.ref)) ∧ ts.length = es.length ∧ ts.length ≤ 1000 ∧ Same G H ∧
    (∀ (i : Nat) (t : Addr) (e : RWire.Text × RWire.Value), ts[i]? = some t → es[i]? = some e → ∃ z q, H t = some (.tup [.str z, .ref q]) ∧ cI z = oi e.1 ∧ z.cps.size ≤ 1000 ∧ PAt a G e.2 q) ∧ spPA a (.record es) G H Q) := by
  refine cal T.d_record sc_record len1 fun f cdv A outer s H vs Q E hr h => ?_
  obtain ⟨_, rfl, l, ts, es, G, rfl, hl, hn, hz, sG, hts, q⟩ := h
  refine ⟨_, (pss_one (ps_ret (pe_mkw (m_Piece T) (roomH_of hr) (by decide) (.inl rfl) rfl (pa_cons (pe_gc rfl T.k_RECORD) (pa_cons (pe_lc (own := [("name", 1), ("piece", 2)]) (g := (gTup K 2 (gCons (gName 1) (gCons (gName 2) gNil)))) (tt := tYes) rfl sc_record.nd (pi_list (pv 0)) (blkOk_by (N := ["pairs", "name", "piece"]) (sc := defScope s_record) (by decide +kernel)) (fun _ _ _ _ _ => (pg_tup rfl (pgs_cons (pg_name (i := 1) sc_record.nd rfl (Or.inl rfl)) (pgs_cons (pg_name (i := 2) sc_record.nd rfl (Or.inl rfl)) pgs_nil)))) (fun _ _ _ _ _ => pts_nil) (fun _ _ _ _ _ => (pe_tup (pa_cons (pe_cw (c_codes T) (roomH_of hr) (by decide) (.inl rfl) rfl (pa_cons (pv 1) pa_nil)) (pa_cons (pv 2) pa_nil))))) pa_nil))))), ?_⟩
  refine ⟨_, rfl, l, rfl, ⟨_, SqL.of hl⟩, fun D hD => lc_l (xs := ts.map V.ref) (G0 := G) (fun _ => true)
    (fun i y G => ∀ e, es[i]? = some e → ∃ t n q, y = .ref t ∧ G t = some (.tup [.ref n, .ref q]) ∧ Oc G n e.1 ∧ PAt a G e.2 q) (SqL.of hl) hD sG (by simp; omega) ?_ ?_ ?_⟩
  · intro i y G1 G2 sm k e he
    obtain ⟨t, n, q, e1, h1, h2, h3⟩ := k e he
    exact ⟨t, n, q, e1, sm _ _ h1, sm _ _ h2, PAt.same sm _ _ h3⟩
  · intro i x G1 H1 hx gr Yes No k _
    obtain ⟨t, ht, rfl⟩ : ∃ t, ts[i]? = some t ∧ x = .ref t := by
      rw [List.getElem?_map] at hx
      cases e : ts[i]? with
      | none => rw [e] at hx; cases hx
      | some t => rw [e] at hx; cases hx; exact ⟨t, rfl, rfl⟩
    have hi : i < es.length := by rw [← hn]; exact (List.getElem?_eq_some_iff.mp ht).1
    obtain ⟨z, q, h1, h2, h3, h4⟩ := hts i t es[i] ht (List.getElem?_eq_getElem hi)
    refine ⟨t, _, rfl, SqT.of (gr.same _ _ h1), rfl, _, _, rfl, _, _, rfl, rfl, rfl, _, rfl, _, rfl, z, rfl, h3, fun H2 n n2 s2 e2 => ⟨_, rfl, fit rfl, fun t2 n3 => ?_⟩⟩
    obtain ⟨G2, x2, y2, z2⟩ := grow_obj (Grow.refl gr.sub) n2 s2 e2
    obtain ⟨G3, x3, y3, z3⟩ := grow_obj x2 n3 (sm_upd n3) upd_same
    refine k rfl _ G3 _ x3 fun e he => ?_
    rw [List.getElem?_eq_getElem hi] at he
    cases he
    exact ⟨t2, n, q, rfl, z3, oc_of (y3 _ _ z2) h2, PAt.same ((gr.up.trans y2).trans y3) _ _ h4⟩
  · intro G1 H1 ys L
    obtain ⟨e1, e2⟩ := L.each
    refine made rfl fun H2 p hp s2 h2 => ?_
    have gr := L.gr
    obtain ⟨G2, x2, y2, z2⟩ : ∃ G2, Grow G H G2 H1 ∧ Same G1 G2 ∧ G2 D = some (.lst ys) := ⟨_, gr.keep L.at_ hD L.gD, sm_upd L.gD, upd_same⟩
    obtain ⟨G3, x3, y3, z3⟩ := grow_pc x2 hp s2 h2
    have key : ∀ (es' : List (RWire.Text × RWire.Value)) (ys' : List V), ys'.length = es'.length → (∀ (j : Nat) (y : V), ys'[j]? = some y → ∀ e, es'[j]? = some e → ∃ t n q, y = V.ref t ∧ G1 t = some (.tup [.ref n, .ref q]) ∧ Oc G1 n e.1 ∧ PAt a G1 e.2 q) →
        ∃ us : List Addr, ys' = us.map V.ref ∧ PEnts a G1 es' us := by
      intro es'
      induction es' with
      | nil =>
        intro ys' h _
        cases ys' with
        | nil => exact ⟨[], rfl, rfl⟩
        | cons _ _ => simp at h
      | cons e es' ih =>
        intro ys' h k
        cases ys' with
        | nil => simp at h
        | cons y ys' =>
          obtain ⟨t, n, q, rfl, h1, h2, h3⟩ := k 0 y rfl e rfl
          obtain ⟨us, rfl, hu⟩ := ih ys' (by simpa using h) fun j y hy e he => k (j + 1) y hy e he
          exact ⟨t :: us, rfl, t, n, q, us, rfl, h1, h2, h3, hu⟩
    obtain ⟨us, rfl, hu⟩ := key es ys (by rw [e1, List.length_map]; exact hn) e2
    exact q G3 H2 p x3 (sm_none gr.same hp) ⟨D, us, z3, y3 _ _ z2, PEnts.same (y2.trans y3) _ _ hu⟩
theorem c_take_octet (T : Txt K mg a) : Cal P w K mg base 1 "take_octet" (sp1 fun x H Q E => ∃ (r l : Addr) (bs : RWire.Text) (i : Nat) (b : UInt8), x = .ref r ∧ Rdr a H r l i ∧ Oc H l bs ∧ bs[i]? = some b ∧
    ∀ H', But r H H' → Rdr a H' r l (i + 1) → Q (.int (b.toNat : Int)) H') := by
  refine cal T.d_take_octet sc_take_octet len1 fun f cdv A outer s H vs Q E hr h => ?_
  obtain ⟨_, rfl, r, l, bs, i, b, rfl, hR, hl, hb, q⟩ := h
  refine ⟨_, (pss_cons (ps_fa T.c_Reader.cl T.n_Reader_at (pv 0) pe_int)
    (pss_one (ps_ret (pe_ix ix_list (pe_f T.c_Reader.cl T.n_Reader_octets (pv 0)) (pe_op op_sub (pe_f T.c_Reader.cl T.n_Reader_at (pv 0)) pe_int) (fun _ _ => rfl))))), ?_⟩
  have hne := hR.ne hl
  obtain ⟨dx, e⟩ := hR
  refine ⟨_, rfl, r, dx, _, _, rfl, e, rfl, _, dx, _, rfl, e, rfl, ?_⟩
  refine ⟨_, rfl, r, dx, _, _, rfl, upd_same, rfl, _, rfl, r, dx, _, _, rfl, upd_same, rfl, _, _, rfl, rfl, l, _, _, _, rfl, rfl, SqL.of (by rw [upd_ne hne]; exact hl), at_of (j := i) (v := .int (b.toNat : Int)) (by omega) ?_, ?_⟩
  · show ((oi bs).map V.int)[i]? = _
    unfold oi
    rw [List.getElem?_map, List.getElem?_map, hb]
    rfl
  · exact q _ But.upd ⟨dx, upd_same⟩
/-- so many octets taken: their number -/
def spTN (a : Adr) (r l : Addr) (i : Nat) (u : RWire.Text) : Hp → VK → Prop := fun H Q => ∀ H', But r H H' → Rdr a H' r l (i + u.length) → Q (.int (RWire.numOf u : Int)) H'
theorem c_take_number (T : Txt K mg a) : Cal P w K mg base 2 "take_number" (sp2 fun x y H Q E => ∃ (r l : Addr) (bs u rest : RWire.Text) (i : Nat), x = .ref r ∧ y = .int (u.length : Int) ∧ u.length ≤ 8 ∧ Rdr a H r l i ∧ Oc H l bs ∧ bs.drop i = u ++ rest ∧ spTN a r l i u H Q) := by
  refine cal T.d_take_number sc_take_number len2 fun f cdv A outer s H vs Q E hr h => ?_
  obtain ⟨_, _, rfl, r, l, bs, u, rest, i, rfl, rfl, hu, hR, hl, hd, q⟩ := h
  refine ⟨_, (pss_cons (ps_set (i := 2) sc_take_number.nd rfl (Or.inl rfl) pe_int)
    (pss_cons (ps_for PassesOwn.never rfl (pi_range1 rfl T.b_range (pa_cons (pv 1) pa_nil)) (pg_name (i := 3) sc_take_number.nd rfl (Or.inl rfl)) (pss_one (ps_aug (i := 2) sc_take_number.nd rfl (Or.inl rfl) (pe_op op_shl (pe_c (c_take_octet T) hr (by decide) rfl (pa_cons (pv 0) pa_nil)) (pe_op op_mul pe_int (pv 3))) ip_add)))
    (pss_one (ps_ret (pv 2))))), ?_⟩
  have hne := hR.ne hl
  refine ⟨_, rfl, _, rfl, by omega, by omega, for_range (fun k σ H' => ∃ v, σ = [some (.ref r), some (.int (u.length : Int)), some (.int (RWire.numOf (u.take k) : Int)), v] ∧ But r H H' ∧ Rdr a H' r l (i + k)) ⟨none, rfl, But.refl, hR⟩ ?_ ?_⟩
  · rintro k σ H1 hk ⟨v, rfl, b1, hR1⟩
    have hk : k < u.length := by simpa using hk
    have hb : bs[i + k]? = some u[k] := by
      have e : (bs.drop i)[k]? = some u[k] := by
        rw [hd, List.getElem?_append_left hk, List.getElem?_eq_getElem hk]
      rw [List.getElem?_drop] at e
      exact e
    refine ⟨_, rfl, _, rfl, _, rfl, r, l, bs, i + k, u[k], rfl, hR1, b1 _ _ hne hl, hb, fun H2 b2 hR2 => ?_⟩
    refine ⟨_, rfl, _, _, rfl, rfl, .inl ⟨by decide, by decide⟩, _, _, rfl, rfl, ⟨by omega, by omega, ?_⟩, _, _, rfl, rfl, ?_⟩
    · have := UInt8.toNat_lt u[k]
      simp only [Int.natAbs_natCast]
      exact Nat.lt_of_lt_of_le this (by decide)
    · refine ⟨some (.int (0 + (k : Int))), ?_, b1.trans b2, hR2⟩
      have e : u.take (k + 1) = u.take k ++ [u[k]] := by rw [List.take_succ, List.getElem?_eq_getElem hk]; rfl
      rw [e, Zp.numOf_snoc, List.length_take, Nat.min_eq_left (Nat.le_of_lt hk)]
      have e2 : ((8 : Int) * (0 + (k : Int))).toNat = 8 * k := by omega
      have e3 : (2 : Int) ^ (8 * k) = ((256 ^ k : Nat) : Int) := by
        rw [Int.natCast_pow, Int.pow_mul]
        rfl
      have e4 : ((RWire.numOf (u.take k) : Nat) : Int) + (u[k].toNat : Int) * 2 ^ ((8 : Int) * (0 + (k : Int))).toNat = ((RWire.numOf (u.take k) + u[k].toNat * 256 ^ k : Nat) : Int) := by
        rw [e2, e3]
        simp
      rw [← e4]
      rfl
  · rintro σ H1 ⟨v, rfl, b1, hR1⟩
    refine ⟨_, rfl, ?_⟩
    have e : u.take ((u.length : Int)).toNat = u := by simp
    rw [e]
    exact q H1 b1 (by simpa using hR1)
end
end Zr
end
section
set_option maxRecDepth 100000
set_option maxHeartbeats 2000000
/-! The defs of pieces: octets taken, lists and records that are read. -/
namespace Zr
open PySem PySem.Spec PyProof.Rows L2 L2H
open Zp (oi)
section
variable {P : Program} {w : World} {K : PySem.W.Frag} {mg : Str → Option Value} {base : Heap} {a : Adr}
theorem c_take_octets (T : Txt K mg a) : Cal P w K mg base 3 "take_octets" (sp1 fun x H Q E => ∃ (r l : Addr) (bs u t rest : RWire.Text) (i : Nat), x = .ref r ∧ Rdr a H r l i ∧ Oc H l bs ∧ bs.drop i = u ++ (t ++ rest) ∧ u.length = 4 ∧ t.length = RWire.numOf u ∧
    ∀ H' p, But r H H' → H p = none → Oc H' p t → Rdr a H' r l (i + 4 + t.length) → Q (.ref p) H') := by
  refine cal T.d_take_octets sc_take_octets len1 fun f cdv A outer s H vs Q E hr h => ?_
  obtain ⟨_, rfl, r, l, bs, u, t, rest, i, rfl, hR, hl, hd, hu, ht, q⟩ := h
  refine ⟨_, (pss_cons (ps_set (i := 1) sc_take_octets.nd rfl (Or.inl rfl) (pe_c (c_take_number T) hr (by decide) rfl (pa_cons (pv 0) (pa_cons pe_int pa_nil))))
    (pss_cons (ps_fa T.c_Reader.cl T.n_Reader_at (pv 0) (pv 1))
    (pss_one (ps_ret (pe_slice sl_list (pe_f T.c_Reader.cl T.n_Reader_octets (pv 0)) (po_some (pe_op op_sub (pe_f T.c_Reader.cl T.n_Reader_at (pv 0)) (pv 1))) (po_some (pe_f T.c_Reader.cl T.n_Reader_at (pv 0)))))))), ?_⟩
  have hne := hR.ne hl
  refine ⟨_, rfl, _, _, rfl, r, l, bs, u, t ++ rest, i, rfl, (by rw [hu]; rfl), by omega, hR, hl, hd, fun H1 b1 hR1 => ?_⟩
  obtain ⟨dx, e1⟩ := hR1
  rw [hu] at e1
  refine ⟨_, rfl, r, dx, _, _, rfl, e1, rfl, _, rfl, _, dx, _, rfl, e1, rfl, ?_⟩
  refine ⟨_, rfl, r, dx, _, _, rfl, upd_same, rfl, _, rfl, r, dx, _, _, rfl, upd_same, rfl, _, rfl, _, _, rfl, rfl, _, rfl, _, rfl, r, dx, _, _, rfl, upd_same, rfl, _, rfl, l, _, rfl, SqL.of (by rw [upd_ne hne]; exact b1 _ _ hne hl), fun p hp => ?_⟩
  obtain ⟨n1, n2⟩ := upd_none hp
  obtain ⟨n3, n4⟩ := upd_none (H := H1) (a := r) hp
  have hn : H p = none := by
    cases e : H p with
    | none => rfl
    | some o => rw [b1 p o n3 e] at n4; cases n4
  refine q _ p ((b1.trans But.upd).trans (.same (sm_upd hp))) hn ?_ ?_
  · show upd _ p _ p = _
    rw [upd_same]
    have e2 : ((i + 4 : Nat) : Int) + (RWire.numOf u : Int) - (RWire.numOf u : Int) = ((i + 4 : Nat) : Int) := by omega
    have e3 : ((i + 4 : Nat) : Int) + (RWire.numOf u : Int) = ((i + 4 + t.length : Nat) : Int) := by rw [ht]; omega
    show some (HO.lst (cutV _ (some (((i + 4 : Nat) : Int) + (RWire.numOf u : Int) - (RWire.numOf u : Int))) (some (((i + 4 : Nat) : Int) + (RWire.numOf u : Int))))) = _
    have hlen : (bs.drop i).length = 4 + (t.length + rest.length) := by rw [hd, List.length_append, List.length_append, hu]
    rw [List.length_drop] at hlen
    rw [e2, e3, cut_mid (by rw [List.length_map, Zp.oi_len]; omega)]
    congr 2
    rw [← List.map_drop, ← List.map_take]
    congr 1
    unfold oi
    rw [← List.map_drop, ← List.map_take]
    congr 1
    have e4 : bs.drop (i + 4) = t ++ rest := by
      rw [← List.drop_drop, hd, List.drop_left' hu]
    rw [e4]
    have e5 : i + 4 + t.length - (i + 4) = t.length := by omega
    rw [e5, List.take_left]
  · refine ⟨dx, ?_⟩
    rw [upd_ne (Ne.symm n3), upd_same]
    have e3 : ((i + 4 : Nat) : Int) + (RWire.numOf u : Int) = ((i + 4 + t.length : Nat) : Int) := by rw [ht]; omega
    show some (HO.ins a.reader dx [("octets", V.ref l), ("at", V.int (((i + 4 : Nat) : Int) + (RWire.numOf u : Int)))]) = _
    rw [e3]
    rfl
/-- a list or a record that is being read: Open, its lists -/
structure OpAt (a : Adr) (H : Hp) (f m n : Addr) (k : Int) (many : Nat) (mp np : List Addr) : Prop where
  ins : Ins H f a.opened (fOpen (.int k) (.int (many : Int)) (.ref m) (.ref n))
  ms : H m = some (.lst (mp.map V.ref))
  ns : H n = some (.lst (np.map V.ref))
def spOpen (a : Adr) : Sp := sp3 fun x y z H Q E => ∃ (p dx : Addr) (k : Int) (many : Nat), x = .ref p ∧ y = .int k ∧ z = .int (many : Int) ∧ H p = some (.ins a.opened dx []) ∧
    ∀ H' m n, (∀ b o, b ≠ p → H b = some o → H' b = some o) → H m = none → H n = none → m ≠ n → OpAt a H' p m n k many [] [] → Q .non H'
theorem m_Open (T : Txt K mg a) : Mak P w K mg base 1 "Open" a.opened (spOpen a) := by
  refine mak T.c_Open sc_OpenInit len3 fun f cdv A outer s H vs Q E hr h => ?_
  obtain ⟨_, _, _, rfl, p, dx, k, many, rfl, rfl, rfl, hp, q⟩ := h
  refine ⟨_, (pss_cons (ps_f T.c_Open.cl T.n_Open_kind (pv 0) (pv 1))
    (pss_cons (ps_f T.c_Open.cl T.n_Open_many (pv 0) (pv 2))
    (pss_cons (ps_f T.c_Open.cl T.n_Open_members (pv 0) (pe_lst pa_nil))
    (pss_one (ps_f T.c_Open.cl T.n_Open_names (pv 0) (pe_lst pa_nil)))))), ?_⟩
  refine ⟨_, rfl, _, rfl, p, dx, _, rfl, hp, rfl, _, rfl, _, rfl, p, dx, _, rfl, upd_same, rfl, fit rfl, fun m hm => ⟨_, rfl, p, dx, [("kind", .int k), ("many", .int (many : Int))], rfl, (by rw [upd_ne (ne_of_none upd_same hm)]; exact upd_same), rfl, fit rfl, fun n hn => ⟨_, rfl, p, dx, [("kind", .int k), ("many", .int (many : Int)), ("members", .ref m)], rfl, ?_, rfl, ?_⟩⟩⟩
  · rw [upd_ne (ne_of_none upd_same hn), upd_same]
    rfl
  · have np : n ≠ p := Ne.symm (ne_of_none upd_same hn)
    have mp : m ≠ p := Ne.symm (ne_of_none upd_same hm)
    have mn : m ≠ n := ne_of_none (o := .lst []) (by rw [upd_ne mp, upd_same]) hn
    refine q _ m n (fun b o hb e => ?_) ?_ ?_ mn ⟨⟨dx, upd_same⟩, ?_, ?_⟩
    · have hbm : b ≠ m := fun z => by rw [← z, upd_ne hb, upd_ne hb] at hm; rw [hm] at e; cases e
      have hbn : b ≠ n := fun z => by rw [← z, upd_ne hb, upd_ne hbm, upd_ne hb, upd_ne hb] at hn; rw [hn] at e; cases e
      rw [upd_ne hb, upd_ne hbn, upd_ne hb, upd_ne hbm, upd_ne hb, upd_ne hb]
      exact e
    · rw [upd_ne mp, upd_ne mp] at hm; exact hm
    · rw [upd_ne np, upd_ne (Ne.symm mn), upd_ne np, upd_ne np] at hn; exact hn
    · rw [upd_ne mp, upd_ne mn, upd_ne mp, upd_same]; rfl
    · rw [upd_ne np, upd_same]; rfl
/-- the names of a record that is being read -/
def Nms (G : Hp) : List RWire.Text → List Addr → Prop
  | [], ps => ps = []
  | u :: us, ps => ∃ q r, ps = q :: r ∧ Oc G q u ∧ Nms G us r
theorem Nms.same {G G' : Hp} (s : Same G G') : ∀ (us : List RWire.Text) (ps : List Addr), Nms G us ps → Nms G' us ps
  | [], _, h => h
  | u :: us, _, ⟨q, r, e, h1, h2⟩ => ⟨q, r, e, s _ _ h1, Nms.same s us r h2⟩
theorem Nms.len {G : Hp} : ∀ {us : List RWire.Text} {ps : List Addr}, Nms G us ps → us.length = ps.length
  | [], _, h => by subst h; rfl
  | u :: us, _, ⟨q, r, e, _, h⟩ => by subst e; simp [Nms.len h]
theorem Nms.snoc {G : Hp} {u : RWire.Text} {q : Addr} : ∀ {us : List RWire.Text} {ps : List Addr}, Nms G us ps → Oc G q u → Nms G (us ++ [u]) (ps ++ [q])
  | [], _, h, k => by subst h; exact ⟨q, [], rfl, k, rfl⟩
  | v :: us, _, ⟨p, r, e, h1, h2⟩, k => by subst e; exact ⟨p, r ++ [q], rfl, h1, Nms.snoc h2 k⟩
theorem pall_snoc {a : Adr} {G : Hp} {v : RWire.Value} {q : Addr} : ∀ {us : List RWire.Value} {ps : List Addr}, PAll a G us ps → PAt a G v q → PAll a G (us ++ [v]) (ps ++ [q])
  | [], _, h, k => by subst h; exact ⟨q, [], rfl, k, rfl⟩
  | u :: us, _, ⟨p, r, e, h1, h2⟩, k => by subst e; exact ⟨p, r ++ [q], rfl, h1, pall_snoc h2 k⟩
theorem pents_zip {a : Adr} {G G1 : Hp} (s : Same G G1) : ∀ {us : List RWire.Text} {vs : List RWire.Value} {np mp ts : List Addr}, Nms G us np → PAll a G vs mp → us.length = vs.length → ts.length = np.length →
    (∀ (j : Nat) (t n m : Addr), ts[j]? = some t → np[j]? = some n → mp[j]? = some m → G1 t = some (.tup [.ref n, .ref m])) → PEnts a G1 (us.zip vs) ts
  | [], [], np, mp, ts, h1, h2, _, hl, _ => by
    subst h1
    cases ts with
    | nil => rfl
    | cons t ts => simp at hl
  | u :: us, v :: vs, _, _, ts, ⟨n, np, e1, h1, k1⟩, ⟨m, mp, e2, h2, k2⟩, hz, hl, k => by
    subst e1 e2
    cases ts with
    | nil => simp at hl
    | cons t ts =>
      exact ⟨t, n, m, ts, rfl, k 0 t n m rfl rfl rfl, s _ _ h1, PAt.same s _ _ h2, pents_zip s k1 k2 (by simpa using hz) (by simpa using hl) fun j t n m f1 f2 f3 => k (j + 1) t n m f1 f2 f3⟩
  | [], _ :: _, _, _, _, _, _, hz, _, _ => by simp at hz
  | _ :: _, [], _, _, _, _, _, hz, _, _ => by simp at hz
/-- many new objects at once, kept from now on -/
theorem grow_list {G H G1 H1 H2 : Hp} (x : Grow G H G1 H1) (s : Same H1 H2) : ∀ ts : List Addr, (∀ t ∈ ts, H1 t = none) → (∀ t ∈ ts, ∃ o, H2 t = some o) → ∃ G2, Grow G H G2 H2 ∧ Same G1 G2 ∧ ∀ t ∈ ts, G2 t = H2 t
  | [], _, _ => ⟨G1, x.loose s, Same.refl _, fun _ h => by simp at h⟩
  | t :: ts, h1, h2 => by
    obtain ⟨G2, y1, y2, y3⟩ := grow_list x s ts (fun u hu => h1 u (List.mem_cons_of_mem _ hu)) (fun u hu => h2 u (List.mem_cons_of_mem _ hu))
    obtain ⟨o, e⟩ := h2 t List.mem_cons_self
    by_cases g : G2 t = none
    · refine ⟨upd G2 t o, y1.keep e (sm_none x.same (h1 t List.mem_cons_self)) g, y2.trans (sm_upd g), fun u hu => ?_⟩
      by_cases q : u = t
      · subst q; rw [upd_same, e]
      · rw [upd_ne q]
        rcases List.mem_cons.mp hu with z | z
        · exact absurd z q
        · exact y3 u z
    · refine ⟨G2, y1, y2, fun u hu => ?_⟩
      rcases List.mem_cons.mp hu with z | z
      · subst z
        cases e' : G2 u with
        | none => exact absurd e' g
        | some o' => exact (y1.sub u o' e').symm
      · exact y3 u z
theorem c_whole_of (T : Txt K mg a) : Cal P w K mg base 3 "whole_of" (sp1 fun x H Q E => ∃ (f m n : Addr) (fr : Zp.Fr) (mp np : List Addr) (G : Hp), x = .ref f ∧ OpAt a H f m n (if fr.isr then 8 else 7) fr.many mp np ∧ Same G H ∧ G m = none ∧ PAll a G fr.members mp ∧ Nms G fr.names np ∧ (fr.isr = true → fr.names.length = fr.members.length) ∧
    ∀ G' H' p, Same G G' → Same G' H' → Same H H' → (∀ b, G b = none → H b ≠ none → b ≠ m → G' b = none) → H p = none → PAt a G' fr.whole p → Q (.ref p) H') := by
  refine cal T.d_whole_of sc_whole_of len1 fun f cdv A outer s H vs Q E hr h => ?_
  obtain ⟨_, rfl, f, m, n, fr, mp, np, G, rfl, hO, sG, gm, hm, hn, hz, q⟩ := h
  refine ⟨_, (pss_cons (ps_if (pt_cmpR op_eq (pe_f T.c_Open.cl T.n_Open_kind (pv 0)) (pe_gc rfl T.k_LIST) (nomark _)) (pss_one (ps_ret (pe_mkw (m_Piece T) (roomH_of hr) (by decide) (.inl rfl) rfl (pa_cons (pe_gc rfl T.k_LIST) (pa_cons (pe_f T.c_Open.cl T.n_Open_members (pv 0)) pa_nil))))) pss_nil)
    (pss_one (ps_ret (pe_mkw (m_Piece T) (roomH_of hr) (by decide) (.inl rfl) rfl (pa_cons (pe_gc rfl T.k_RECORD) (pa_cons (pe_listZip rfl rfl T.b_list rfl T.b_zip (by decide +kernel) (by decide +kernel) (pa_cons (pe_f T.c_Open.cl T.n_Open_names (pv 0)) (pa_cons (pe_f T.c_Open.cl T.n_Open_members (pv 0)) pa_nil))) pa_nil)))))), ?_⟩
  obtain ⟨dx, e⟩ := hO.ins
  refine ⟨_, rfl, f, dx, _, _, rfl, e, rfl, rfl, _, rfl, ?_⟩
  obtain ⟨isr, many, names, members⟩ := fr
  cases isr with
  | false =>
    refine iteT ⟨_, rfl, f, dx, _, _, rfl, e, rfl, made rfl fun H2 p hp s2 h2 => ?_⟩
    -- the list is kept from now on
    have x1 : Grow G H (upd G m (.lst (mp.map V.ref))) H2 ∨ True := .inr trivial
    have sub1 : Same (upd G m (.lst (mp.map V.ref))) H2 := sm_keep (sG.trans s2) (s2 _ _ hO.ms)
    obtain ⟨dp, e2⟩ := h2
    have gp : upd G m (.lst (mp.map V.ref)) p = none := by
      rw [upd_ne (Ne.symm (ne_of_none hO.ms hp))]
      exact sm_none sG hp
    refine q (upd (upd G m (.lst (mp.map V.ref))) p _) H2 p ((sm_upd gm).trans (sm_upd gp)) (sm_keep sub1 e2) s2 (fun b h1 h3 h4 => ?_) hp ?_
    · have q1 : b ≠ p := fun z => h3 (by rw [z]; exact hp)
      rw [upd_ne q1, upd_ne h4]
      exact h1
    · have s3 : Same G (upd (upd G m (.lst (mp.map V.ref))) p (.ins a.piece dp (fs2 fPiece [.int 7, .ref m]))) := (sm_upd gm).trans (sm_upd gp)
      exact ⟨m, mp, ⟨dp, upd_same⟩, (sm_upd gp) _ _ upd_same, PAll.same s3 _ _ hm⟩
  | true =>
    have hz := hz rfl
    have l1 : np.length = mp.length := by rw [← hn.len, ← pall_len hm]; exact hz
    refine iteF ⟨_, rfl, f, dx, _, _, rfl, e, rfl, _, rfl, f, dx, _, _, rfl, e, rfl, n, m, _, _, rfl, SqL.of hO.ns, SqL.of hO.ms, (by simp; omega), fun H2 l ts s2 hl el ht k kn => ?_⟩
    refine made rfl fun H3 p hp s3 h3 => ?_
    have tl : ts.length = np.length := by simpa using ht
    have kk : ∀ (j : Nat) (t n m : Addr), ts[j]? = some t → np[j]? = some n → mp[j]? = some m → H2 t = some (.tup [.ref n, .ref m]) := fun j t n m f1 f2 f3 =>
      k j t (.ref n) (.ref m) f1 (by rw [List.getElem?_map, f2]; rfl) (by rw [List.getElem?_map, f3]; rfl)
    obtain ⟨G2, x2, y2, z2⟩ := grow_list (Grow.refl sG) s2 ts kn fun t ht => by
      obtain ⟨j, hj⟩ := List.mem_iff_getElem?.mp ht
      have hj' := (List.getElem?_eq_some_iff.mp hj).1
      exact ⟨_, kk j t _ _ hj (List.getElem?_eq_getElem (by omega)) (List.getElem?_eq_getElem (by omega))⟩
    have gl : G2 l = none ∨ G2 l = some (.lst (ts.map V.ref)) := by
      cases e' : G2 l with
      | none => exact .inl rfl
      | some o => exact .inr (by have := x2.sub l o e'; rw [el] at this; cases this; rfl)
    obtain ⟨G3, x3, y3, z3⟩ : ∃ G3, Grow G H G3 H2 ∧ Same G2 G3 ∧ G3 l = some (.lst (ts.map V.ref)) := by
      rcases gl with g | g
      · exact ⟨_, x2.keep el hl g, sm_upd g, upd_same⟩
      · exact ⟨G2, x2, Same.refl _, g⟩
    obtain ⟨G4, x4, y4, z4⟩ := grow_pc x3 hp s3 h3
    refine q G4 H3 p x4.up x4.sub x4.same (fun b h1 h2 _ => x4.new b h1 h2) (sm_none s2 hp) ⟨l, ts, z4, y4 _ _ z3, ?_⟩
    refine pents_zip x4.up hn hm hz tl fun j t n m f1 f2 f3 => ?_
    have ht := List.mem_of_getElem? f1
    exact y4 _ _ (y3 _ _ (by rw [z2 t ht]; exact kk j t n m f1 f2 f3))
end
end Zr
end
section
set_option maxRecDepth 100000
set_option maxHeartbeats 2000000
/-! The defs of pieces: values taken. -/
namespace Zr
open PySem PySem.Spec PyProof.Rows L2 L2H
open Zp (oi)
section
variable {P : Program} {w : World} {K : PySem.W.Frag} {mg : Str → Option Value} {base : Heap} {a : Adr}
theorem int_of (n : Nat) (h : n < 256 ^ 8) : RWire.intOf n = if decide ((n : Int) / 2 ^ 63 = 1) = true then (n : Int) - 1 * 2 ^ 64 else (n : Int) := by
  unfold RWire.intOf RWire.wordMost
  have h : n < 18446744073709551616 := h
  by_cases q : n < 9223372036854775808
  · have e : ¬ (n : Int) / 2 ^ 63 = 1 := by omega
    rw [if_pos (decide_eq_true q), if_neg (by simpa using e)]
    rfl
  · have e : (n : Int) / 2 ^ 63 = 1 := by omega
    rw [if_neg (by simpa using q), if_pos (decide_eq_true e)]
    simp
theorem c_take_plain (T : Txt K mg a) : Cal P w K mg base 4 "take_plain" (sp2 fun x y H Q E => ∃ (r l : Addr) (bs : RWire.Text) (i k : Nat) (v : RWire.Value) (rest : RWire.Text) (G : Hp), x = .ref r ∧ y = .int (k : Int) ∧ Rdr a H r l i ∧ Oc H l bs ∧ i ≤ bs.length ∧ Zp.plain k (bs.drop i) = some (v, rest) ∧ Same G H ∧ G r = none ∧
    ∀ G' H' p j, GrowB r G H G' H' → H p = none → PAt a G' v p → Rdr a H' r l j → bs.drop j = rest → i ≤ j → j ≤ bs.length → Q (.ref p) H') := by
  refine cal T.d_take_plain sc_take_plain len2 fun f cdv A outer s H vs Q E hr h => ?_
  obtain ⟨_, _, rfl, r, l, bs, i, k, v, rest, G, rfl, rfl, hR, hl, hi, hk, sG, gr, q⟩ := h
  refine ⟨_, (pss_cons (ps_if (pt_cmpR op_eq (pv 1) (pe_gc rfl T.k_INTEGER) (nomark _)) (pss_cons (ps_set (i := 2) sc_take_plain.nd rfl (Or.inl rfl) (pe_c (c_take_number T) hr (by decide) rfl (pa_cons (pv 0) (pa_cons pe_int pa_nil))))
    (pss_one (ps_ret (pe_mkw (m_Piece T) (roomH_of hr) (by decide) (.inl rfl) rfl (pa_cons (pe_gc rfl T.k_INTEGER) (pa_cons (pe_ifExp (pt_cmpR op_eq (pe_op op_shr (pv 2) pe_int) pe_int (nomark _)) (pe_op op_sub (pv 2) (pe_op op_shl pe_int pe_int)) (pv 2)) pa_nil)))))) pss_nil)
    (pss_one (ps_ret (pe_ifExp (pt_cmpR op_eq (pv 1) (pe_gc rfl T.k_TEXT) (nomark _)) (pe_mkw (m_Piece T) (roomH_of hr) (by decide) (.inl rfl) rfl (pa_cons (pe_gc rfl T.k_TEXT) (pa_cons (pe_c (c_take_octets T) hr (by decide) rfl (pa_cons (pv 0) pa_nil)) pa_nil))) (pe_mkw (m_Piece T) (roomH_of hr) (by decide) (.inl rfl) rfl (pa_cons (pv 1) (pa_cons pe_int pa_nil))))))), ?_⟩
  refine ⟨_, rfl, rfl, _, rfl, ?_⟩
  by_cases h4 : k = 4
  · subst h4
    refine ifT (eqI rfl) ?_
    obtain ⟨n, hn, e⟩ : ∃ n, RWire.readNum 8 (bs.drop i) = some (n, rest) ∧ v = .int (RWire.intOf n) := by
      have hk : RWire.readInt (bs.drop i) = some (v, rest) := hk
      unfold RWire.readInt at hk
      split at hk
      · cases hk
      · rename_i p hp
        split at hk
        · cases hk
          exact ⟨_, hp, rfl⟩
        · cases hk
    subst e
    obtain ⟨u, hu, hl8, rfl⟩ := Zp.readNum_eq hn
    have hlt := Zp.numOf_lt u
    rw [hl8] at hlt
    refine ⟨_, rfl, _, _, rfl, r, l, bs, u, rest, i, rfl, (by rw [hl8]; rfl), by omega, hR, hl, hu, fun H1 b1 hR1 => ?_⟩
    have fin : ∀ z : Int, z = RWire.intOf (RWire.numOf u) → ∀ H2 p, H1 p = none → Same H1 H2 → Pc a H2 p 4 (.int z) → Q (.ref p) H2 := fun z ez H2 p hp s2 h2 => by
      subst ez
      have sG1 : Same G H1 := fun b o e => b1 b o (fun z => by rw [z, gr] at e; cases e) (sG b o e)
      obtain ⟨G2, x2, y2, z2⟩ := grow_pc (Grow.refl sG1) hp s2 h2
      have hlen : (bs.drop i).length = 8 + rest.length := by rw [hu, List.length_append, hl8]
      rw [List.length_drop] at hlen
      have hrn : H1 r ≠ none := hR1.some
      refine q G2 H2 p (i + 8) ((GrowB.moved sG b1 gr).trans (.of x2) hrn) ?_ z2 (by rw [← hl8]; exact Ins.same s2 hR1) (by rw [← List.drop_drop, hu, List.drop_left' hl8]) (by omega) (by omega)
      cases e : H p with
      | none => rfl
      | some o =>
        have hpr : p ≠ r := fun z => hrn (by rw [← z]; exact hp)
        rw [b1 p o hpr e] at hp
        cases hp
    refine ⟨_, rfl, _, _, rfl, rfl, (by show (0 : Int) ≤ 63; decide), rfl, _, rfl, ?_⟩
    have ei := int_of _ hlt
    by_cases h63 : (RWire.numOf u : Int) / 2 ^ 63 = 1
    · rw [if_pos (decide_eq_true h63)] at ei
      refine ifT (eqI h63) ?_
      refine ⟨_, rfl, _, _, rfl, rfl, ⟨by decide, by decide, by decide⟩, _, _, rfl, rfl, made rfl ?_⟩
      exact fin _ ei.symm
    · rw [if_neg (by simpa using h63)] at ei
      refine ifF (neI h63) ?_
      refine ⟨_, rfl, made rfl ?_⟩
      exact fin _ ei.symm
  · refine ifF (neI (by omega)) ?_
    refine ⟨_, rfl, rfl, _, rfl, ?_⟩
    by_cases h6 : k = 6
    · subst h6
      refine ifT (eqI rfl) ?_
      obtain ⟨t, ht, rfl⟩ : ∃ t, RWire.readText (bs.drop i) = some (t, rest) ∧ v = .text t := by
        have hk : RWire.readWords (bs.drop i) = some (v, rest) := hk
        unfold RWire.readWords at hk
        split at hk
        · cases hk
        · rename_i p hp
          cases hk
          exact ⟨_, hp, rfl⟩
      obtain ⟨u, hu, hl4, hn⟩ := Zp.readText_eq ht
      refine ⟨_, rfl, _, rfl, r, l, bs, u, t, rest, i, rfl, hR, hl, hu, hl4, hn, fun H1 n b1 nn on hR1 => made rfl fun H2 p hp s2 h2 => ?_⟩
      have sG1 : Same G H1 := fun b o e => b1 b o (fun z => by rw [z, gr] at e; cases e) (sG b o e)
      have hrn : H1 r ≠ none := hR1.some
      have gn : G n = none := sm_none sG nn
      have x1 : GrowB r G H (upd G n (.lst ((oi t).map V.int))) H1 := ⟨sm_upd gn, sm_keep sG1 on, b1, fun b h1 h2 => by
        rw [upd_ne (fun z => h2 (by rw [z]; exact nn))]
        exact h1⟩
      obtain ⟨G2, x2, y2, z2⟩ := grow_pc (Grow.refl x1.sub) hp s2 h2
      have hlen : (bs.drop i).length = 4 + (t.length + rest.length) := by rw [hu, List.length_append, List.length_append, hl4]
      rw [List.length_drop] at hlen
      refine q G2 H2 p (i + 4 + t.length) (x1.trans (.of x2) hrn) ?_ ⟨n, z2, y2 _ _ upd_same⟩ (Ins.same s2 hR1) ?_ (by omega) (by omega)
      · cases e : H p with
        | none => rfl
        | some o =>
          have hpr : p ≠ r := fun z => hrn (by rw [← z]; exact hp)
          rw [b1 p o hpr e] at hp
          cases hp
      · rw [← List.drop_drop, ← List.drop_drop, hu, List.drop_left' hl4, List.drop_left]
    · refine ifF (neI (by omega)) ?_
      obtain ⟨hk2, hk3⟩ : rest = bs.drop i ∧ ∀ H p, Pc a H p (k : Int) (.int 0) → PAt a H v p := by
        match k, h4, h6, hk with
        | 0, _, _, hk => cases hk; exact ⟨rfl, fun _ _ h => h⟩
        | 1, _, _, hk => cases hk; exact ⟨rfl, fun _ _ h => h⟩
        | 2, _, _, hk => cases hk; exact ⟨rfl, fun _ _ h => h⟩
        | 3, _, _, hk => cases hk; exact ⟨rfl, fun _ _ h => h⟩
        | 4, h, _, _ => exact absurd rfl h
        | 5, _, _, hk => cases hk
        | 6, _, h, _ => exact absurd rfl h
        | _ + 7, _, _, hk => cases hk
      subst hk2
      refine ⟨_, rfl, made rfl fun H2 p hp s2 h2 => ?_⟩
      obtain ⟨G2, x2, y2, z2⟩ := grow_pc (Grow.refl sG) hp s2 h2
      exact q G2 H2 p i (.of x2) hp (hk3 _ _ z2) (Ins.same s2 hR) rfl (Nat.le_refl _) hi
end
end Zr
end
section
set_option maxRecDepth 100000
set_option maxHeartbeats 2000000
/-! A value is read: the stack of what is open, as it stands in the heap. -/
namespace Zr
open PySem PySem.Spec PyProof.Rows L2 L2H
open Zp (oi Fr MS Runs stp)
section
variable {a : Adr}
/-- the stack (its top last in fs, first in s); e: how many names the top has beyond its members -/
def StAt (a : Adr) (G H : Hp) (bd : Nat) : Nat → List Fr → List Addr → List Addr → Prop
  | _, [], fs, own => fs = [] ∧ own = []
  | e, fr :: s, fs, own => ∃ f m n mp np fs' own', fs = fs' ++ [f] ∧ own = m :: n :: own' ∧ OpAt a H f m n (if fr.isr then 8 else 7) fr.many mp np ∧ PAll a G fr.members mp ∧ Nms G fr.names np ∧ mp.length ≤ bd ∧ np.length ≤ bd ∧
      (fr.isr = true → fr.names.length = fr.members.length + e) ∧ StAt a G H bd 1 s fs' own'
theorem StAt.keep {G1 G2 H1 H2 : Hp} {bd bd' : Nat} (sm : Same G1 G2) (hb : bd ≤ bd') : ∀ {e : Nat} {s : List Fr} {fs own : List Addr}, (∀ b, b ∈ fs ∨ b ∈ own → ∀ o, H1 b = some o → H2 b = some o) → StAt a G1 H1 bd e s fs own → StAt a G2 H2 bd' e s fs own
  | _, [], _, _, _, h => h
  | _, fr :: s, _, _, hk, ⟨f, m, n, mp, np, fs', own', e1, e2, O, h1, h2, h3, h4, h5, h6⟩ => by
    subst e1 e2
    refine ⟨f, m, n, mp, np, fs', own', rfl, rfl, ⟨?_, hk m (.inr (by simp)) _ O.ms, hk n (.inr (by simp)) _ O.ns⟩, PAll.same sm _ _ h1, Nms.same sm _ _ h2, by omega, by omega, h5, StAt.keep sm hb (fun b hb o e => hk b (by
      rcases hb with q | q
      · exact .inl (by simp [q])
      · exact .inr (by simp [q])) o e) h6⟩
    obtain ⟨dx, e⟩ := O.ins
    exact ⟨dx, hk f (.inl (by simp)) _ e⟩
theorem StAt.len {G H : Hp} {bd : Nat} : ∀ {e : Nat} {s : List Fr} {fs own : List Addr}, StAt a G H bd e s fs own → fs.length = s.length
  | _, [], _, _, h => by rw [h.1]; rfl
  | _, fr :: s, _, _, ⟨f, m, n, mp, np, fs', own', e1, e2, O, h1, h2, h3, h4, h5, h6⟩ => by
    subst e1
    simp [StAt.len h6]
/-- all of it stands -/
theorem StAt.stands {G H : Hp} {bd : Nat} : ∀ {e : Nat} {s : List Fr} {fs own : List Addr}, StAt a G H bd e s fs own → (∀ b ∈ own, ∃ xs, H b = some (.lst xs)) ∧ ∀ b ∈ fs, ∃ C dx ls, H b = some (.ins C dx ls)
  | _, [], _, _, h => by
    rw [h.1, h.2]
    exact ⟨fun _ h => by simp at h, fun _ h => by simp at h⟩
  | _, fr :: s, _, _, ⟨f, m, n, mp, np, fs', own', e1, e2, O, h1, h2, h3, h4, h5, h6⟩ => by
    subst e1 e2
    obtain ⟨k1, k2⟩ := StAt.stands h6
    refine ⟨fun b hb => ?_, fun b hb => ?_⟩
    · rcases List.mem_cons.mp hb with q | q
      · subst q; exact ⟨_, O.ms⟩
      · rcases List.mem_cons.mp q with q | q
        · subst q; exact ⟨_, O.ns⟩
        · exact k1 b q
    · rcases List.mem_append.mp hb with q | q
      · exact k2 b q
      · have q : b = f := by simpa using q
        subst q
        obtain ⟨dx, e⟩ := O.ins
        exact ⟨_, dx, _, e⟩
/-- while a value is read: since (G, H) the heap has come to (G1, H1) -/
structure Tk (a : Adr) (r l st : Addr) (bs : RWire.Text) (G H : Hp) (j bd e : Nat) (s : List Fr) (fs own : List Addr) (G1 H1 : Hp) : Prop where
  hr : H r ≠ none
  hl : Oc H l bs
  gr : GrowB r G H G1 H1
  rd : Rdr a H1 r l j
  sl : H1 st = some (.lst (fs.map V.ref))
  nd : (st :: own).Nodup
  nf : ∀ b ∈ st :: own, H b = none ∧ G1 b = none
  ff : ∀ b ∈ fs, H b = none
  at_ : StAt a G1 H1 bd e s fs own
  le : j ≤ bs.length
  bj : bd ≤ j
  ln : fs.length ≤ bd
  g0 : G r = none
section
variable {r l st : Addr} {bs : RWire.Text} {G H G1 H1 G2 H2 : Hp} {j bd e : Nat} {s : List Fr} {fs own : List Addr}
theorem Tk.lr (T : Tk a r l st bs G H j bd e s fs own G1 H1) (hne : l ≠ r) : Oc H1 l bs := T.gr.but _ _ hne T.hl
theorem Tk.ne (T : Tk a r l st bs G H j bd e s fs own G1 H1) {b : Addr} (h : H b = none) : b ≠ r := fun z => T.hr (by rw [← z]; exact h)
theorem Tk.gr0 (T : Tk a r l st bs G H j bd e s fs own G1 H1) : G1 r = none := T.gr.new r T.g0 T.hr
/-- the reader moves, the part that stays grows -/
theorem Tk.move (T : Tk a r l st bs G H j bd e s fs own G1 H1) {j2 : Nat} (x : GrowB r G1 H1 G2 H2) (rd : Rdr a H2 r l j2) (h1 : j ≤ j2) (h2 : j2 ≤ bs.length) : Tk a r l st bs G H j2 bd e s fs own G2 H2 := by
  have hr1 : H1 r ≠ none := T.rd.some
  obtain ⟨k1, k2⟩ := T.at_.stands
  have stn := T.ne (T.nf st (by simp)).1
  refine ⟨T.hr, T.hl, T.gr.trans x hr1, rd, x.but _ _ stn T.sl, T.nd, fun b hb => ⟨(T.nf b hb).1, x.new b (T.nf b hb).2 ?_⟩, T.ff, T.at_.keep x.up (Nat.le_refl _) fun b hb o e => x.but b o ?_ e, h2, by have := T.bj; omega, T.ln, T.g0⟩
  · rcases List.mem_cons.mp hb with q | q
    · rw [q, T.sl]; simp
    · obtain ⟨xs, e⟩ := k1 b q
      rw [e]; simp
  · rcases hb with q | q
    · exact T.ne (T.ff b q)
    · exact T.ne (T.nf b (by simp [q])).1
theorem Tk.bound (T : Tk a r l st bs G H j bd e s fs own G1 H1) {bd' : Nat} (h1 : bd ≤ bd') (h2 : bd' ≤ j) : Tk a r l st bs G H j bd' e s fs own G1 H1 :=
  ⟨T.hr, T.hl, T.gr, T.rd, T.sl, T.nd, T.nf, T.ff, T.at_.keep (Same.refl _) h1 fun _ _ _ e => e, T.le, h2, by have := T.ln; omega, T.g0⟩
/-- one of its own lists changes -/
theorem GrowB.poke {b : Addr} {o : HO} (x : GrowB r G H G1 H1) (h : H b = none) (g : G1 b = none) : GrowB r G H G1 (upd H1 b o) :=
  ⟨x.up, fun c u e => by rw [upd_ne (ne_of_none e g)]; exact x.sub c u e, fun c u n e => by rw [upd_ne (ne_of_none e h)]; exact x.but c u n e, x.new⟩
theorem atLast (fs : List Addr) (f : Addr) : atI ((fs ++ [f]).map V.ref) (-1) = some (.ref f) := by
  rw [List.map_append]
  exact atI_last _ _
/-- the top, with its lists -/
theorem Tk.top {fr : Fr} (T : Tk a r l st bs G H j bd e (fr :: s) fs own G1 H1) : ∃ f m n mp np fs' own', fs = fs' ++ [f] ∧ own = m :: n :: own' ∧ OpAt a H1 f m n (if fr.isr then 8 else 7) fr.many mp np ∧ PAll a G1 fr.members mp ∧ Nms G1 fr.names np ∧ mp.length ≤ bd ∧ np.length ≤ bd ∧
      (fr.isr = true → fr.names.length = fr.members.length + e) ∧ StAt a G1 H1 bd 1 s fs' own' := T.at_
theorem Tk.apart {fr : Fr} {f m n : Addr} {mp np : List Addr} {fs' own' : List Addr} (T : Tk a r l st bs G H j bd e (fr :: s) (fs' ++ [f]) (m :: n :: own') G1 H1) {k : Int} {many : Nat} (O : OpAt a H1 f m n k many mp np) :
    (st ≠ m ∧ st ≠ n ∧ m ≠ n ∧ r ≠ m ∧ r ≠ n) ∧ (∀ b ∈ fs' ++ [f], b ≠ m ∧ b ≠ n) ∧ ∀ b ∈ own', b ≠ m ∧ b ≠ n := by
  have nd := T.nd
  simp only [List.nodup_cons, List.mem_cons, not_or] at nd
  obtain ⟨k1, k2⟩ := T.at_.stands
  refine ⟨⟨nd.1.1, nd.1.2.1, nd.2.1.1, fun z => T.ne (T.nf m (by simp)).1 z.symm, fun z => T.ne (T.nf n (by simp)).1 z.symm⟩, fun b hb => ?_, fun b hb => ⟨fun z => nd.2.1.2 (by rw [← z]; exact hb), fun z => nd.2.2.1 (by rw [← z]; exact hb)⟩⟩
  obtain ⟨C, dx, ls, e⟩ := k2 b hb
  exact ⟨ne_of e O.ms (by intro z; cases z), ne_of e O.ns (by intro z; cases z)⟩
theorem Ins.but {H1 : Hp} {p C b : Addr} {fs : List (Str × V)} {o : HO} (h : Ins H1 p C fs) (n : p ≠ b) : Ins (upd H1 b o) p C fs := by
  obtain ⟨dx, e⟩ := h
  exact ⟨dx, by rw [upd_ne n]; exact e⟩
/-- a name is put to the top -/
theorem Tk.name {fr : Fr} {f m n p : Addr} {mp np : List Addr} {fs' own' : List Addr} {t : RWire.Text} (T : Tk a r l st bs G H j bd 0 (fr :: s) (fs' ++ [f]) (m :: n :: own') G1 H1)
    (O : OpAt a H1 f m n (if fr.isr then 8 else 7) fr.many mp np) (h1 : PAll a G1 fr.members mp) (h2 : Nms G1 fr.names np) (h3 : mp.length ≤ bd) (h4 : np.length < bd) (h5 : fr.isr = true → fr.names.length = fr.members.length) (h6 : StAt a G1 H1 bd 1 s fs' own') (hp : Oc G1 p t) :
    Tk a r l st bs G H j bd 1 ({ fr with names := fr.names ++ [t] } :: s) (fs' ++ [f]) (m :: n :: own') G1 (upd H1 n (.lst (np.map V.ref ++ [.ref p]))) := by
  have nf := T.nf n (by simp)
  obtain ⟨⟨a1, a2, a3, a4, a5⟩, a6, a7⟩ := T.apart O
  refine ⟨T.hr, T.hl, T.gr.poke nf.1 nf.2, Ins.but T.rd a5, by rw [upd_ne a2]; exact T.sl, T.nd, T.nf, T.ff, ⟨f, m, n, mp, np ++ [p], fs', own', rfl, rfl, ⟨Ins.but O.ins (a6 f (by simp)).2, by rw [upd_ne a3]; exact O.ms, by rw [upd_same, List.map_append]; rfl⟩, h1, h2.snoc hp, h3, by simp; omega, fun z => by simp [h5 z], ?_⟩, T.le, T.bj, T.ln, T.g0⟩
  refine h6.keep (Same.refl _) (Nat.le_refl _) fun b hb o e => ?_
  rw [upd_ne]
  · exact e
  · rcases hb with q | q
    · exact (a6 b (by simp [q])).2
    · exact (a7 b q).2
/-- a member is put to the top -/
theorem Tk.member {fr : Fr} {f m n p : Addr} {mp np : List Addr} {fs' own' : List Addr} {v : RWire.Value} (T : Tk a r l st bs G H j bd 1 (fr :: s) (fs' ++ [f]) (m :: n :: own') G1 H1) (hbd : bd + 1 ≤ j)
    (O : OpAt a H1 f m n (if fr.isr then 8 else 7) fr.many mp np) (h1 : PAll a G1 fr.members mp) (h2 : Nms G1 fr.names np) (h3 : mp.length ≤ bd) (h4 : np.length ≤ bd) (h5 : fr.isr = true → fr.names.length = fr.members.length + 1) (h6 : StAt a G1 H1 bd 1 s fs' own') (hp : PAt a G1 v p) :
    Tk a r l st bs G H j (bd + 1) 0 (fr.add v :: s) (fs' ++ [f]) (m :: n :: own') G1 (upd H1 m (.lst (mp.map V.ref ++ [.ref p]))) := by
  have nf := T.nf m (by simp)
  obtain ⟨⟨a1, a2, a3, a4, a5⟩, a6, a7⟩ := T.apart O
  refine ⟨T.hr, T.hl, T.gr.poke nf.1 nf.2, Ins.but T.rd a4, by rw [upd_ne a1]; exact T.sl, T.nd, T.nf, T.ff, ⟨f, m, n, mp ++ [p], np, fs', own', rfl, rfl, ⟨Ins.but O.ins (a6 f (by simp)).1, by rw [upd_same, List.map_append]; rfl, by rw [upd_ne (Ne.symm a3)]; exact O.ns⟩, pall_snoc h1 hp, h2, by simp; omega, by omega, fun z => by show fr.names.length = (fr.members ++ [v]).length + 0; rw [h5 z]; simp, ?_⟩, T.le, hbd, by have := T.ln; omega, T.g0⟩
  refine h6.keep (Same.refl _) (Nat.le_succ _) fun b hb o e => ?_
  rw [upd_ne]
  · exact e
  · rcases hb with q | q
    · exact (a6 b (by simp [q])).1
    · exact (a7 b q).1
/-- a new list or record is put onto the stack -/
theorem Tk.push {f m n : Addr} {isr : Bool} {many : Nat} (T : Tk a r l st bs G H j bd 1 s fs own G1 H1) (x : Same H1 H2) (O : OpAt a H2 f m n (if isr then 8 else 7) many [] []) (hf : H1 f = none) (hm : H1 m = none) (hn : H1 n = none) (hmn : m ≠ n) (hbd : bd + 1 ≤ j) :
    Tk a r l st bs G H j (bd + 1) 0 (⟨isr, many, [], []⟩ :: s) (fs ++ [f]) (m :: n :: own) G1 (upd H2 st (.lst (fs.map V.ref ++ [.ref f]))) := by
  have nfs := T.nf st (by simp)
  have old : ∀ {b : Addr}, H1 b = none → H b = none ∧ G1 b = none ∧ b ≠ r := fun {b} h => by
    have hb : b ≠ r := fun z => T.rd.some (by rw [← z]; exact h)
    refine ⟨?_, sm_none T.gr.sub h, hb⟩
    cases e : H b with
    | none => rfl
    | some o => rw [T.gr.but b o hb e] at h; cases h
  obtain ⟨k1, k2⟩ := T.at_.stands
  have ns : ∀ {b : Addr}, H1 b = none → b ≠ st := fun {b} h z => by rw [z, T.sl] at h; cases h
  have no : ∀ {b : Addr}, H1 b = none → b ∉ own := fun {b} h z => by obtain ⟨xs, e⟩ := k1 b z; rw [h] at e; cases e
  have gr2 : GrowB r G H G1 H2 := ⟨T.gr.up, T.gr.sub.trans x, T.gr.but.trans (.same x), T.gr.new⟩
  have stf : ∀ b ∈ fs, b ≠ st := fun b hb => by
    obtain ⟨C, dx, ls, e⟩ := k2 b hb
    exact ne_of e T.sl (by intro z; cases z)
  refine ⟨T.hr, T.hl, gr2.poke nfs.1 nfs.2, Ins.but (Ins.same x T.rd) (fun z => T.ne nfs.1 z.symm), by rw [upd_same, List.map_append]; rfl, ?_, fun b hb => ?_, fun b hb => ?_, ⟨f, m, n, [], [], fs, own, rfl, rfl, ⟨Ins.but O.ins (ns hf), by rw [upd_ne (ns hm)]; exact O.ms, by rw [upd_ne (ns hn)]; exact O.ns⟩, rfl, rfl, by simp, by simp, fun _ => rfl, ?_⟩, T.le, hbd, by simp; exact T.ln, T.g0⟩
  · have nd := T.nd
    simp only [List.nodup_cons, List.mem_cons, not_or] at nd ⊢
    exact ⟨⟨fun z => ns hm z.symm, fun z => ns hn z.symm, nd.1⟩, ⟨hmn, no hm⟩, no hn, nd.2⟩
  · simp only [List.mem_cons] at hb
    rcases hb with q | q | q | q
    · rw [q]; exact nfs
    · rw [q]; exact ⟨(old hm).1, (old hm).2.1⟩
    · rw [q]; exact ⟨(old hn).1, (old hn).2.1⟩
    · exact T.nf b (by simp [q])
  · rcases List.mem_append.mp hb with q | q
    · exact T.ff b q
    · have q : b = f := by simpa using q
      rw [q]; exact (old hf).1
  · refine T.at_.keep (Same.refl _) (Nat.le_succ _) fun b hb o e => ?_
    rw [upd_ne]
    · exact x b o e
    · rcases hb with q | q
      · exact stf b q
      · intro z
        have nd := T.nd
        simp only [List.nodup_cons] at nd
        exact nd.1 (by rw [← z]; exact q)
/-- the top is taken off the stack -/
theorem Tk.pop {fr : Fr} {f m n : Addr} {fs' own' : List Addr} (T : Tk a r l st bs G H j bd e (fr :: s) (fs' ++ [f]) (m :: n :: own') G1 H1) (h6 : StAt a G1 H1 bd 1 s fs' own') :
    Tk a r l st bs G H j bd 1 s fs' own' G1 (upd H1 st (.lst (fs'.map V.ref))) := by
  have nfs := T.nf st (by simp)
  obtain ⟨k1, k2⟩ := h6.stands
  have nd := T.nd
  simp only [List.nodup_cons, List.mem_cons, not_or] at nd ⊢
  refine ⟨T.hr, T.hl, T.gr.poke nfs.1 nfs.2, Ins.but T.rd (fun z => T.ne nfs.1 z.symm), upd_same, ?_, fun b hb => T.nf b ?_, fun b hb => T.ff b (by simp [hb]), h6.keep (Same.refl _) (Nat.le_refl _) fun b hb o e => ?_, T.le, T.bj, by have := T.ln; simp at this; omega, T.g0⟩
  · simp only [List.nodup_cons]
    exact ⟨nd.1.2.2, nd.2.2.2⟩
  · rcases List.mem_cons.mp hb with q | q
    · simp [q]
    · simp [q]
  · rw [upd_ne]
    · exact e
    · rcases hb with q | q
      · obtain ⟨C, dx, ls, e2⟩ := k2 b q
        exact ne_of e2 T.sl (by intro z; cases z)
      · exact fun z => nd.1.2.2 (by rw [← z]; exact q)
end
end
end Zr
end
section
set_option maxRecDepth 100000
set_option maxHeartbeats 2000000
/-! A value is taken: the walk. -/
namespace Zr
open PySem PySem.Spec PyProof.Rows L2 L2H
open Zp (oi Fr MS Runs stp)
section
variable {a : Adr} {r l st : Addr} {bs : RWire.Text} {G H G1 H1 G2 H2 : Hp} {j bd e : Nat} {s : List Fr} {fs own : List Addr}
theorem Tk.whole {m : Addr} (T : Tk a r l st bs G H j bd 1 s fs own G1 H1) (hm : m ∉ st :: own) (hmH : H m = none) (x1 : Same G1 G2) (x2 : Same G2 H2) (x3 : Same H1 H2) (x4 : ∀ b, G1 b = none → H1 b ≠ none → b ≠ m → G2 b = none) : Tk a r l st bs G H j bd 1 s fs own G2 H2 := by
  have hr1 : H1 r ≠ none := T.rd.some
  obtain ⟨k1, k2⟩ := T.at_.stands
  refine ⟨T.hr, T.hl, ⟨T.gr.up.trans x1, x2, T.gr.but.trans (.same x3), fun b h1 h2 => x4 b (T.gr.new b h1 h2) (T.gr.but.some hr1 h2) fun z => h2 (by rw [z]; exact hmH)⟩, Ins.same x3 T.rd, x3 _ _ T.sl, T.nd, fun b hb => ⟨(T.nf b hb).1, x4 b (T.nf b hb).2 ?_ fun z => hm (by rw [← z]; exact hb)⟩, T.ff, T.at_.keep x1 (Nat.le_refl _) fun b hb o e => x3 b o e, T.le, T.bj, T.ln, T.g0⟩
  rcases List.mem_cons.mp hb with q | q
  · rw [q, T.sl]; simp
  · obtain ⟨xs, e⟩ := k1 b q
    rw [e]; simp
theorem Tk.one (T : Tk a r l st bs G H j bd 0 s fs own G1 H1) (h : ∀ fr s', s = fr :: s' → fr.isr = false) : Tk a r l st bs G H j bd 1 s fs own G1 H1 := by
  refine ⟨T.hr, T.hl, T.gr, T.rd, T.sl, T.nd, T.nf, T.ff, ?_, T.le, T.bj, T.ln, T.g0⟩
  have A := T.at_
  cases s with
  | nil => exact A
  | cons fr s' =>
    obtain ⟨f, m, n, mp, np, fs', own', e1, e2, O, h1, h2, h3, h4, h5, h6⟩ := A
    exact ⟨f, m, n, mp, np, fs', own', e1, e2, O, h1, h2, h3, h4, (fun (z : fr.isr = true) => by rw [h fr s' rfl] at z; cases z), h6⟩
theorem Tk.loose (T : Tk a r l st bs G H j bd e s fs own G1 H1) (x : Same H1 H2) : Tk a r l st bs G H j bd e s fs own G1 H2 :=
  T.move (.of ((Grow.refl T.gr.sub).loose x)) (Ins.same x T.rd) (Nat.le_refl _) T.le
theorem Tk.top' {fr : Fr} {f m n : Addr} {fs' own' : List Addr} (T : Tk a r l st bs G H j bd e (fr :: s) (fs' ++ [f]) (m :: n :: own') G1 H1) : ∃ mp np, OpAt a H1 f m n (if fr.isr then 8 else 7) fr.many mp np ∧ PAll a G1 fr.members mp ∧ Nms G1 fr.names np ∧ mp.length ≤ bd ∧ np.length ≤ bd ∧
      (fr.isr = true → fr.names.length = fr.members.length + e) ∧ StAt a G1 H1 bd 1 s fs' own' := by
  obtain ⟨f2, m2, n2, mp, np, fs2, own2, e1, e2, O, h1, h2, h3, h4, h5, h6⟩ := T.top
  obtain ⟨rfl, e3⟩ := List.append_inj' e1 rfl
  cases e3
  cases e2
  exact ⟨mp, np, O, h1, h2, h3, h4, h5, h6⟩
/-- the reader moves, a list of octets comes and stays -/
theorem Tk.moveOc {p : Addr} {t : RWire.Text} (T : Tk a r l st bs G H j bd e s fs own G1 H1) {j2 : Nat} (b2 : But r H1 H2) (np : H1 p = none) (op : Oc H2 p t) (rd : Rdr a H2 r l j2) (h1 : j ≤ j2) (h2 : j2 ≤ bs.length) :
    ∃ G2, Tk a r l st bs G H j2 bd e s fs own G2 H2 ∧ Oc G2 p t := by
  have gp := sm_none T.gr.sub np
  have g0 := T.gr0
  refine ⟨upd G1 p (.lst ((oi t).map V.int)), T.move ⟨sm_upd gp, sm_keep (fun b o e => b2 b o (fun z => by rw [z, g0] at e; cases e) (T.gr.sub b o e)) op, b2, fun b h3 h4 => ?_⟩ rd h1 h2, upd_same⟩
  rw [upd_ne (fun z => h4 (by rw [z]; exact np))]
  exact h3
theorem Tk.moveR (T : Tk a r l st bs G H j bd e s fs own G1 H1) {j2 : Nat} (b2 : But r H1 H2) (rd : Rdr a H2 r l j2) (h1 : j ≤ j2) (h2 : j2 ≤ bs.length) : Tk a r l st bs G H j2 bd e s fs own G1 H2 :=
  T.move (GrowB.moved T.gr.sub b2 T.gr0) rd h1 h2
theorem Tk.low {bd2 : Nat} (T : Tk a r l st bs G H j bd2 1 s fs own G1 H1) (h : StAt a G1 H1 bd 1 s fs own) (hb : bd ≤ j) (ln : fs.length ≤ bd) : Tk a r l st bs G H j bd 1 s fs own G1 H1 :=
  ⟨T.hr, T.hl, T.gr, T.rd, T.sl, T.nd, T.nf, T.ff, h, T.le, hb, ln, T.g0⟩
theorem map_ref_inj : ∀ {xs ys : List Addr}, xs.map V.ref = ys.map V.ref → xs = ys
  | [], [], _ => rfl
  | [], _ :: _, h => by simp at h
  | _ :: _, [], h => by simp at h
  | x :: xs, y :: ys, h => by
    simp only [List.map_cons, List.cons.injEq] at h
    rw [V.ref.inj h.1, map_ref_inj h.2]
theorem dropLast_ref (fs : List Addr) (f : Addr) : ((fs ++ [f]).map V.ref).dropLast = fs.map V.ref := by
  rw [List.map_append]
  exact List.dropLast_concat
theorem last_ref (fs : List Addr) (f : Addr) : ((fs ++ [f]).map V.ref)[((fs ++ [f]).map V.ref).length - 1]? = some (.ref f) := by
  simp
theorem Tk.fresh (T : Tk a r l st bs G H j bd e s fs own G1 H1) {b : Addr} (h : H1 b = none) : H b = none := by
  have hb : b ≠ r := fun z => T.rd.some (by rw [← z]; exact h)
  cases e : H b with
  | none => rfl
  | some o => rw [T.gr.but b o hb e] at h; cases h
end
section
variable {P : Program} {w : World} {K : PySem.W.Frag} {mg : Str → Option Value} {base : Heap} {a : Adr}
/-- a list or a record that begins: made, all else as it was -/
theorem madeO {H3 : Hp} {k : Int} {many : Nat} {x dx : Addr} {R : Hp → Prop} {E : XK} (hx : H3 x = none) (hd : H3 dx = none) (h : ∀ H4 m n, Same H3 H4 → H3 m = none → H3 n = none → m ≠ n → OpAt a H4 x m n k many [] [] → R H4) :
    spOpen a [.ref x, .int k, .int (many : Int)] (upd (upd H3 dx (.own x)) x (.ins a.opened dx [])) (fun v H2 => v = .non ∧ R H2) E := by
  refine ⟨_, _, _, rfl, x, dx, k, many, rfl, rfl, rfl, upd_same, fun H4 m n kp hm hn hmn O => ⟨rfl, h H4 m n (fun b o e => ?_) (upd_none (upd_none hm).2).2 (upd_none (upd_none hn).2).2 hmn O⟩⟩
  have n1 : b ≠ x := ne_of_none e hx
  have n2 : b ≠ dx := ne_of_none e hd
  refine kp b o n1 ?_
  rw [upd_ne n1, upd_ne n2]
  exact e
theorem inV78 (k : Nat) : inV (.int (k : Int)) [.int 7, .int 8] = decide (k = 7 ∨ k = 8) := by
  show (((7 : Int) == (k : Int)) || (((8 : Int) == (k : Int)) || false)) = _
  by_cases h7 : k = 7
  · subst h7; rfl
  · by_cases h8 : k = 8
    · subst h8; rfl
    · have e1 : ((7 : Int) == (k : Int)) = false := by rw [beq_eq_false_iff_ne]; omega
      have e2 : ((8 : Int) == (k : Int)) = false := by rw [beq_eq_false_iff_ne]; omega
      rw [e1, e2]
      simp [h7, h8]
/-- what a taken value leaves -/
def TakeQ (a : Adr) (r l : Addr) (bs : RWire.Text) (i : Nat) (v : RWire.Value) (rest : RWire.Text) (G H : Hp) (Q : VK) : Prop := ∀ G' H' p j, GrowB r G H G' H' → H p = none → PAt a G' v p → Rdr a H' r l j → bs.drop j = rest → i < j → j ≤ bs.length → Q (.ref p) H'
theorem c_take_piece (T : Txt K mg a) : Cal P w K mg base 5 "take_piece" (sp1 fun x H Q E => ∃ (r l : Addr) (bs : RWire.Text) (i : Nat) (v : RWire.Value) (rest : RWire.Text) (G : Hp), x = .ref r ∧ Rdr a H r l i ∧ Oc H l bs ∧ i ≤ bs.length ∧ bs.length ≤ 1000000 ∧ Runs (.a [] (bs.drop i)) v rest ∧ Same G H ∧ G r = none ∧ TakeQ a r l bs i v rest G H Q) := by
  refine cal T.d_take_piece sc_take_piece len1 fun f cdv A outer s H vs Q E hr h => ?_
  obtain ⟨_, rfl, r, l, bs, i, v, rest, G, rfl, hR, hl, hi, hz, hrun, sG, gr, q⟩ := h
  refine ⟨_, (pss_cons (ps_set (i := 1) sc_take_piece.nd rfl (Or.inl rfl) (pe_lst pa_nil))
    (pss_one (ps_while PassesOwn.never (pt_val pe_bl) (pss_cut (ps_if (PW.pt (pw_and (pt_cmpR op_gt (pe_callB call_len_seq rfl T.b_len (by decide +kernel) (pa_cons (pv 1) pa_nil)) pe_int (nomark _)) (pw_and1 (pt_cmpR op_eq (pe_f T.c_Open.cl T.n_Open_kind (pe_ix ix_list (pv 1) (pe_un un_neg pe_int) (fun _ _ => rfl))) (pe_gc rfl T.k_RECORD) (nomark _))))) (pss_one (ps_expr (pe_bm PySem.F.plainAttrs_list PySem.F.slot_list_append PySem.F.type_list_append mt_append (pe_f T.c_Open.cl T.n_Open_names (pe_ix ix_list (pv 1) (pe_un un_neg pe_int) (fun _ _ => rfl))) (pa_cons (pe_c (c_take_octets T) hr (by decide) rfl (pa_cons (pv 0) pa_nil)) pa_nil)))) pss_nil)
    (pss_cons (ps_set (i := 2) sc_take_piece.nd rfl (Or.inl rfl) (pe_c (c_take_octet T) hr (by decide) rfl (pa_cons (pv 0) pa_nil)))
    (pss_cut (ps_if (pt_cmpR op_in_seq (pv 2) (pe_tup (pa_cons (pe_gc rfl T.k_LIST) (pa_cons (pe_gc rfl T.k_RECORD) pa_nil))) (by rfl)) (pss_cons (ps_expr (pe_bm PySem.F.plainAttrs_list PySem.F.slot_list_append PySem.F.type_list_append mt_append (pv 1) (pa_cons (pe_mk (m_Open T) hr (by decide) rfl (pa_cons (pv 2) (pa_cons (pe_c (c_take_number T) hr (by decide) rfl (pa_cons (pv 0) (pa_cons pe_int pa_nil))) pa_nil))) pa_nil)))
    (pss_cons (ps_if (pt_cmpR op_gt (pe_f T.c_Open.cl T.n_Open_many (pe_ix ix_list (pv 1) (pe_un un_neg pe_int) (fun _ _ => rfl))) pe_int (nomark _)) (pss_one ps_continue) pss_nil)
    (pss_one (ps_set (i := 3) sc_take_piece.nd rfl (Or.inl rfl) (pe_c (c_whole_of T) hr (by decide) rfl (pa_cons (pe_bm0 PySem.F.plainAttrs_list PySem.F.slot_list_pop PySem.F.type_list_pop mt_pop (pv 1)) pa_nil)))))) (pss_one (ps_set (i := 3) sc_take_piece.nd rfl (Or.inl rfl) (pe_c (c_take_plain T) hr (by decide) rfl (pa_cons (pv 0) (pa_cons (pv 2) pa_nil))))))
    (pss_cut (ps_while PassesOwn.never (pt_cmpR op_gt (pe_callB call_len_seq rfl T.b_len (by decide +kernel) (pa_cons (pv 1) pa_nil)) pe_int (nomark _)) (pss_cons (ps_expr (pe_bm PySem.F.plainAttrs_list PySem.F.slot_list_append PySem.F.type_list_append mt_append (pe_f T.c_Open.cl T.n_Open_members (pe_ix ix_list (pv 1) (pe_un un_neg pe_int) (fun _ _ => rfl))) (pa_cons (pv 3) pa_nil)))
    (pss_cons (ps_if (pt_cmpR op_lt (pe_callB call_len_seq rfl T.b_len (by decide +kernel) (pa_cons (pe_f T.c_Open.cl T.n_Open_members (pe_ix ix_list (pv 1) (pe_un un_neg pe_int) (fun _ _ => rfl))) pa_nil)) (pe_f T.c_Open.cl T.n_Open_many (pe_ix ix_list (pv 1) (pe_un un_neg pe_int) (fun _ _ => rfl))) (nomark _)) (pss_one ps_break) pss_nil)
    (pss_one (ps_set (i := 3) sc_take_piece.nd rfl (Or.inl rfl) (pe_c (c_whole_of T) hr (by decide) rfl (pa_cons (pe_bm0 PySem.F.plainAttrs_list PySem.F.slot_list_pop PySem.F.type_list_pop mt_pop (pv 1)) pa_nil)))))))
    (pss_one (ps_if (pt_cmpR op_eq (pe_callB call_len_seq rfl T.b_len (by decide +kernel) (pa_cons (pv 1) pa_nil)) pe_int (nomark _)) (pss_one (ps_ret (pv 3))) pss_nil))))))))), ?_⟩
  have hne := hR.ne hl
  refine ⟨fit rfl, fun st hst => ?_⟩
  have hrr : H r ≠ none := hR.some
  have nst : st ≠ r := fun z => hrr (by rw [← z]; exact hst)
  have T0 : Tk a r l st bs G H i i 0 [] [] [] G (upd H st (.lst [])) :=
    ⟨hrr, hl, ((GrowB.refl sG).poke hst (sm_none sG hst)), Ins.same (sm_upd hst) hR, upd_same, by simp, fun b hb => by
      have e : b = st := by simpa using hb
      rw [e]; exact ⟨hst, sm_none sG hst⟩, fun b hb => by simp at hb, ⟨rfl, rfl⟩, hi, Nat.le_refl _, by simp, gr⟩
  let AW : Nat → L2.St → Hp → Prop := fun j0 σ H1 => ∃ (s : List Fr) (j : Nat) (fs own : List Addr) (G1 : Hp) (v2 v3 : Option V), σ = [some (.ref r), some (.ref st), v2, v3] ∧ Tk a r l st bs G H j j 0 s fs own G1 H1 ∧ Runs (.a s (bs.drop j)) v rest ∧ j0 ≤ j
  let CW : Nat → Nat → L2.St → Hp → Prop := fun j0 k σ H1 => ∃ (s : List Fr) (j bd : Nat) (fs own : List Addr) (G1 : Hp) (v2 : Option V) (p : Addr) (val : RWire.Value), σ = [some (.ref r), some (.ref st), v2, some (.ref p)] ∧ Tk a r l st bs G H j bd 1 s fs own G1 H1 ∧ bd + 1 ≤ j ∧ Runs (.c s val (bs.drop j)) v rest ∧
    PAt a G1 val p ∧ H p = none ∧ j0 < j ∧ s.length = k
  refine ⟨fun m σ H1 => ∃ j0, AW j0 σ H1 ∧ i ≤ j0 ∧ m = bs.length - j0, ⟨_, i, ⟨[], i, [], [], G, none, none, rfl, T0, hrun, Nat.le_refl _⟩, Nat.le_refl _, rfl⟩, ?_⟩
  rintro m σ H1 ⟨j0, ⟨s, j, fs, own, G1, v2, v3, rfl, Tk1, hrun, hj⟩, hij, rfl⟩
  refine ⟨true, rfl, ifT rfl ⟨fun σ H2 => ∃ m', m' < bs.length - j0 ∧ ∃ j0, AW j0 σ H2 ∧ i ≤ j0 ∧ m' = bs.length - j0, fun _ _ h => h, ?_⟩⟩
  refine ⟨fun σ H1 => ∃ (s : List Fr) (j : Nat) (fs own : List Addr) (G1 : Hp) (v2 v3 : Option V), σ = [some (.ref r), some (.ref st), v2, v3] ∧ Tk a r l st bs G H j j 1 s fs own G1 H1 ∧ Runs (.b s (bs.drop j)) v rest ∧ j0 ≤ j, ?_, ?_⟩
  · -- a name, where the top is a record
    refine ⟨_, rfl, st, _, rfl, .inl (SqL.of Tk1.sl), _, _, rfl, rfl, _, rfl, ?_⟩
    cases s with
    | nil =>
      have e0 := Tk1.at_.len
      have e1 : fs = [] := List.eq_nil_of_length_eq_zero e0
      subst e1
      refine ifF rfl (ifF rfl ⟨[], j, [], own, G1, v2, v3, rfl, Tk1.one (fun _ _ z => by cases z), hrun.next rfl, hj⟩)
    | cons fr s' =>
      obtain ⟨f, m, n, mp, np, fs', own', rfl, rfl, O, h1, h2, h3, h4, h5, h6⟩ := Tk1.top
      obtain ⟨dx, eO⟩ := O.ins
      refine ifT (by simp) ?_
      refine ⟨_, rfl, _, rfl, st, _, _, _, rfl, rfl, SqL.of Tk1.sl, atLast _ _, f, dx, _, _, rfl, eO, rfl, rfl, _, rfl, ?_⟩
      cases hisr : fr.isr with
      | false =>
        rw [hisr] at eO
        refine ifF (neI (by simp)) ⟨fr :: s', j, _, _, G1, v2, v3, rfl, Tk1.one (fun fr2 s2 z => by cases z; exact hisr), hrun.next (by simp [stp, hisr]), hj⟩
      | true =>
        refine ifT (eqI rfl) ?_
        rcases hrun.some with ⟨y, hy, hrun2⟩ | hd
        · simp only [stp, hisr, if_true] at hy
          cases ht : RWire.readText (bs.drop j) with
          | none => rw [ht] at hy; cases hy
          | some p =>
            obtain ⟨t, b'⟩ := p
            rw [ht] at hy
            cases hy
            obtain ⟨u, hu, hl4, hn⟩ := Zp.readText_eq ht
            have hlen : (bs.drop j).length = 4 + (t.length + b'.length) := by rw [hu, List.length_append, List.length_append, hl4]
            rw [List.length_drop] at hlen
            refine ⟨_, rfl, _, rfl, st, _, _, _, rfl, rfl, SqL.of Tk1.sl, atLast _ _, f, dx, _, _, rfl, eO, rfl, .inl ⟨rfl, _, SqL.of O.ns⟩, ?_⟩
            refine ⟨_, rfl, _, rfl, r, l, bs, u, t, b', j, rfl, Tk1.rd, Tk1.lr hne, hu, hl4, hn, fun H2 p b2 np2 op2 rd2 => ?_⟩
            obtain ⟨G2, T2, hp⟩ := Tk1.moveOc b2 np2 op2 rd2 (by omega) (by omega)
            have T3 := T2.bound (bd' := j + 4 + t.length) (by omega) (Nat.le_refl _)
            obtain ⟨mp3, np3, O3, g1, g2, g3, g4, g5, g6⟩ := T3.top'
            obtain ⟨mp4, np4, O4, f1, f2, f3, f4, f5, f6⟩ := T2.top'
            have en : np3 = np4 := by
              have := O3.ns.symm.trans O4.ns
              have := HO.lst.inj (Option.some.inj this)
              exact map_ref_inj this
            refine ⟨n, _, _, rfl, rfl, O3.ns, by rw [List.length_map, sizeLine_eq]; omega, ⟨{ fr with names := fr.names ++ [t] } :: s', j + 4 + t.length, _, _, G2, v2, v3, rfl, T3.name O3 g1 g2 g3 (by rw [en]; omega) g5 g6 hp, ?_, by omega⟩⟩
            have e4 : bs.drop (j + 4 + t.length) = b' := by
              rw [← List.drop_drop, ← List.drop_drop, hu, List.drop_left' hl4, List.drop_left]
            rw [e4]
            simpa [hisr] using hrun2
        · cases hd
  · rintro σ1 H1 ⟨s, j, fs, own, G1, v2, v3, rfl, T1, hrun, hj⟩
    obtain ⟨k, r', hk, hb⟩ : ∃ k r', bs.drop j = k :: r' ∧ bs[j]? = some k := by
      cases hd : bs.drop j with
      | nil =>
        rw [hd] at hrun
        rcases hrun.some with ⟨y, hy, _⟩ | h
        · cases hy
        · cases h
      | cons k r' =>
        have : (bs.drop j)[0]? = some k := by rw [hd]; rfl
        rw [List.getElem?_drop] at this
        exact ⟨k, r', rfl, this⟩
    have hr' : bs.drop (j + 1) = r' := by rw [← List.drop_drop, hk]; rfl
    have hlt : j < bs.length := (List.getElem?_eq_some_iff.mp hb).1
    rw [hk] at hrun
    refine ⟨_, rfl, _, rfl, r, l, bs, j, k, rfl, T1.rd, T1.lr hne, hb, fun H2 b2 rd2 => ?_⟩
    have T2 := T1.moveR b2 rd2 (Nat.le_succ _) hlt
    refine ⟨fun σ H => ∃ k, CW j0 k σ H, ?_, ?_⟩
    · -- a list or a record that begins, or a plain value
      refine ⟨_, rfl, fit rfl, fun t ht => ⟨_, _, rfl, .inr (SqT.of upd_same), rfl, rfl, _, rfl, ?_⟩⟩
      have T3 := T2.loose (sm_upd (o := .tup [.int 7, .int 8]) ht)
      by_cases h78 : k.toNat = 7 ∨ k.toNat = 8
      · refine ifT (by show inV _ _ = true; rw [inV78]; exact decide_eq_true h78) ?_
        obtain ⟨y, hy, hrun2⟩ := hrun.some.resolve_right (by intro z; cases z)
        simp only [stp, if_pos h78] at hy
        cases hn : RWire.readNum 4 r' with
        | none => rw [hn] at hy; cases hy
        | some pq =>
          obtain ⟨n0, r''⟩ := pq
          rw [hn] at hy
          obtain ⟨u, hu, hl4, rfl⟩ := Zp.readNum_eq hn
          have hlen : (bs.drop (j + 1)).length = 4 + r''.length := by rw [hr', hu, List.length_append, hl4]
          rw [List.length_drop] at hlen
          have er : bs.drop (j + 1 + 4) = r'' := by rw [← List.drop_drop, hr', hu, List.drop_left' hl4]
          refine ⟨_, rfl, .inl ⟨rfl, _, SqL.of T3.sl⟩, _, rfl, _, rfl, _, _, rfl, r, l, bs, u, r'', j + 1, rfl, (by rw [hl4]; rfl), by omega, T3.rd, T3.lr hne, by rw [hr', hu], fun H3 b3 rd3 => ?_⟩
          intro f dx0 nf hd0 hne0
          refine madeO (H3 := H3) (k := (k.toNat : Int)) (many := RWire.numOf u) nf hd0 fun H4 m n s4 nm nn mn O => ?_
          refine ⟨st, fs.map V.ref, _, rfl, rfl, ?_, ?_, ?_⟩
          · have T4 := T3.moveR b3 rd3 (by omega) (by omega)
            exact s4 _ _ T4.sl
          · have := T3.ln
            rw [List.length_map, sizeLine_eq]
            omega
          have T4 := T3.moveR b3 rd3 (by omega) (by omega)
          have ek : ((k.toNat : Nat) : Int) = if (k.toNat == 8) = true then 8 else 7 := by
            rcases h78 with h | h <;> rw [h] <;> rfl
          rw [ek] at O
          have T5 := T4.push s4 O nf nm nn mn (by omega)
          rw [hl4] at T5
          obtain ⟨mp5, np5, O5, g1, g2, g3, g4, g5, g6⟩ := T5.top'
          obtain ⟨dx, eO⟩ := O5.ins
          refine ⟨_, rfl, _, rfl, st, _, _, _, rfl, rfl, SqL.of T5.sl, atLast _ _, f, dx, _, _, rfl, eO, rfl, _, _, rfl, rfl, _, rfl, ?_⟩
          by_cases h0 : RWire.numOf u = 0
          · refine ifF (by rw [h0]; rfl) ?_
            simp only [h0, if_true, Option.map_some, Option.some.injEq] at hy
            subst hy
            have T6 := T5.pop g6
            have nd := T5.nd
            simp only [List.nodup_cons, List.mem_cons, not_or] at nd
            have nfm := T5.nf m (by simp)
            have e5 : upd H4 st (.lst (fs.map V.ref ++ [.ref f])) st = some (.lst ((fs ++ [f]).map V.ref)) := T5.sl
            refine ⟨_, rfl, .inl ⟨rfl, _, SqL.of T5.sl⟩, st, _, _, rfl, rfl, T5.sl, last_ref _ _, _, rfl, f, m, n, ⟨k.toNat == 8, 0, [], []⟩, mp5, np5, G1, rfl, ?_, ?_, nfm.2, g1, g2, g5, fun G2 H6 p x1 x2 x3 x4 np hp => ?_⟩
            · rw [h0] at O5
              rw [dropLast_ref]
              exact ⟨Ins.but O5.ins (ne_of eO T5.sl (by intro z; cases z)), by rw [upd_ne (fun z => nd.1.1 z.symm)]; exact O5.ms, by rw [upd_ne (fun z => nd.1.2.1 z.symm)]; exact O5.ns⟩
            · rw [dropLast_ref]; exact T6.gr.sub
            · rw [dropLast_ref] at x3 x4 np
              have T7 := T6.whole (m := m) (by simp only [List.mem_cons, not_or]; exact ⟨fun z => nd.1.1 z.symm, nd.2.1.2⟩) nfm.1 x1 x2 x3 x4
              exact ⟨s.length, s, j + 1 + 4, j + 1, fs, own, G2, _, p, _, rfl, T7, by omega, by rw [er]; exact hrun2, hp, T6.fresh np, by omega, rfl⟩
          · refine ifT (decide_eq_true (by show (0 : Int) < (RWire.numOf u : Int); omega)) ?_
            simp only [h0, if_false, Option.map_some, Option.some.injEq] at hy
            subst hy
            exact ⟨bs.length - (j + 1 + 4), by omega, j + 1 + 4, ⟨_, j + 1 + 4, _, _, G1, _, _, rfl, T5.bound (by omega) (Nat.le_refl _), by rw [er]; exact hrun2, Nat.le_refl _⟩, by omega, rfl⟩
      · refine ifF (by show inV _ _ = false; rw [inV78]; exact decide_eq_false h78) ?_
        obtain ⟨y, hy, hrun2⟩ := hrun.some.resolve_right (by intro z; cases z)
        simp only [stp, if_neg h78] at hy
        cases hn : Zp.plain k.toNat r' with
        | none => rw [hn] at hy; cases hy
        | some pq =>
          obtain ⟨val, r''⟩ := pq
          rw [hn] at hy
          cases hy
          refine ⟨_, rfl, _, rfl, _, _, rfl, r, l, bs, j + 1, k.toNat, val, r'', G1, rfl, rfl, T3.rd, T3.lr hne, hlt, by rw [hr']; exact hn, T3.gr.sub, T3.gr0, fun G2 H3 p j2 x np hp rd3 er h1 h2 => ?_⟩
          have T4 := T3.move x rd3 h1 h2
          exact ⟨s.length, s, j2, j, fs, own, G2, _, p, val, rfl, T4, by omega, by rw [er]; exact hrun2, hp, T3.fresh np, by omega, rfl⟩
    · rintro σ2 H2 ⟨k0, C0⟩
      refine ⟨fun σ HH => CW j0 0 σ HH ∨ ∃ (s : List Fr) (j : Nat) (fs own : List Addr) (G1 : Hp) (v2 v3 : Option V), σ = [some (.ref r), some (.ref st), v2, v3] ∧ Tk a r l st bs G H j j 0 s fs own G1 HH ∧ Runs (.a s (bs.drop j)) v rest ∧ j0 < j ∧ s ≠ [], ?_, ?_⟩
      · -- the lists and records that this value ends
        refine ⟨fun m σ H => CW j0 m σ H, ⟨k0, C0⟩, ?_⟩
        rintro m σ H3 ⟨s, j, bd, fs, own, G1, v2, p, val, rfl, T1, hbd, hrun, hp, np, hj, rfl⟩
        refine ⟨_, rfl, st, _, rfl, .inl (SqL.of T1.sl), _, _, rfl, rfl, _, rfl, ?_⟩
        cases s with
        | nil =>
          have e1 : fs = [] := List.eq_nil_of_length_eq_zero T1.at_.len
          subst e1
          exact ifF rfl (.inl ⟨[], j, bd, [], own, G1, v2, p, val, rfl, T1, hbd, hrun, hp, np, hj, rfl⟩)
        | cons fr s' =>
          obtain ⟨f, m, n, mp, np', fs', own', rfl, rfl, O, h1, h2, h3, h4, h5, h6⟩ := T1.top
          obtain ⟨dx, eO⟩ := O.ins
          refine ifT (by simp) ⟨fun σ H => ∃ m', m' < (fr :: s').length ∧ CW j0 m' σ H, fun _ _ h => h, ?_⟩
          have T2 := T1.member hbd O h1 h2 h3 h4 h5 h6 hp
          refine ⟨_, rfl, _, rfl, st, _, _, _, rfl, rfl, SqL.of T1.sl, atLast _ _, f, dx, _, _, rfl, eO, rfl, .inl ⟨rfl, _, SqL.of O.ms⟩, _, rfl, m, _, _, rfl, rfl, O.ms, ?_, ?_⟩
          · have := T1.bj
            have := T1.le
            rw [List.length_map, sizeLine_eq]
            omega
          obtain ⟨mp5, np5, O5, g1, g2, g3, g4, g5, g6⟩ := T2.top'
          obtain ⟨dx5, eO5⟩ := O5.ins
          have hml : mp5.length = (fr.add val).members.length := (pall_len g1).symm
          refine ⟨_, rfl, _, rfl, st, _, _, _, rfl, rfl, SqL.of T2.sl, atLast _ _, f, dx5, _, _, rfl, eO5, rfl, m, _, rfl, .inl (SqL.of O5.ms), _, rfl, _, rfl, st, _, _, _, rfl, rfl, SqL.of T2.sl, atLast _ _, f, dx5, _, _, rfl, eO5, rfl, _, _, rfl, rfl, _, rfl, ?_⟩
          obtain ⟨y, hy, hrun2⟩ := hrun.some.resolve_right (by intro z; cases z)
          by_cases hlt : (fr.add val).members.length < fr.many
          · refine ifT (decide_eq_true (by rw [List.length_map, hml]; exact Int.ofNat_lt.mpr hlt)) ?_
            simp only [stp, if_pos hlt, Option.some.injEq] at hy
            subst hy
            exact .inr ⟨_, j, _, _, G1, _, _, rfl, T2.bound hbd (Nat.le_refl _), hrun2, hj, by simp⟩
          · refine ifF (decide_eq_false (by rw [List.length_map, hml]; exact fun z => hlt (Int.ofNat_lt.mp z))) ?_
            simp only [stp, if_neg hlt, Option.some.injEq] at hy
            subst hy
            have T6' := T2.pop g6
            have nd := T2.nd
            simp only [List.nodup_cons, List.mem_cons, not_or] at nd
            have ln1 := T1.ln
            rw [List.length_append, List.length_singleton] at ln1
            obtain ⟨⟨b1, b2, b3, b4, b5⟩, b6, b7⟩ := T1.apart O
            obtain ⟨k1, k2⟩ := h6.stands
            have T6 := T6'.low (h6.keep (Same.refl _) (Nat.le_refl _) fun b hb o e => by
              rw [upd_ne, upd_ne]
              · exact e
              · rcases hb with q | q
                · exact (b6 b (by simp [q])).1
                · exact (b7 b q).1
              · rcases hb with q | q
                · obtain ⟨C, dx, ls, e2⟩ := k2 b q
                  exact ne_of e2 T1.sl (by intro z; cases z)
                · exact fun z => nd.1.2.2 (by rw [← z]; exact q)) (by omega) (by omega)
            have nfm := T2.nf m (by simp)
            refine ⟨_, rfl, .inl ⟨rfl, _, SqL.of T2.sl⟩, st, _, _, rfl, rfl, T2.sl, last_ref _ _, _, rfl, f, m, n, fr.add val, mp5, np5, G1, rfl, ?_, ?_, nfm.2, g1, g2, g5, fun G2 H6 p x1 x2 x3 x4 np hp => ?_⟩
            · rw [dropLast_ref]
              exact ⟨Ins.but O5.ins (ne_of eO5 T2.sl (by intro z; cases z)), by rw [upd_ne (fun z => nd.1.1 z.symm)]; exact O5.ms, by rw [upd_ne (fun z => nd.1.2.1 z.symm)]; exact O5.ns⟩
            · rw [dropLast_ref]; exact T6.gr.sub
            · rw [dropLast_ref] at x3 x4 np
              have T7 := T6.whole (m := m) (by simp only [List.mem_cons, not_or]; exact ⟨fun z => nd.1.1 z.symm, nd.2.1.2⟩) nfm.1 x1 x2 x3 x4
              exact ⟨s'.length, by simp, s', j, bd, _, _, G2, _, p, _, rfl, T7, hbd, hrun2, hp, T6.fresh np, hj, rfl⟩
      · rintro σ3 H3 (⟨s, j, bd, fs, own, G1, v2, p, val, rfl, T1, hbd, hrun, hp, np, hj, hs⟩ | ⟨s, j, fs, own, G1, v2, v3, rfl, T1, hrun, hj, hs⟩)
        · have hs : s = [] := List.eq_nil_of_length_eq_zero hs
          subst hs
          have e1 : fs = [] := List.eq_nil_of_length_eq_zero T1.at_.len
          subst e1
          refine ⟨_, rfl, st, _, rfl, .inl (SqL.of T1.sl), rfl, _, rfl, ifT (eqI rfl) ⟨_, rfl, ?_⟩⟩
          have hr := hrun.next (y := .d val (bs.drop j)) rfl
          rcases hr.some with ⟨y, hy, _⟩ | h
          · cases hy
          · cases h
            exact q G1 H3 p j T1.gr np hp T1.rd rfl (by omega) T1.le
        · have hl := T1.at_.len
          have hp : 0 < s.length := List.length_pos_iff.mpr hs
          refine ⟨_, rfl, st, _, rfl, .inl (SqL.of T1.sl), rfl, _, rfl, ifF (neI (by rw [List.length_map]; omega)) ?_⟩
          have := T1.le
          exact ⟨bs.length - j, by omega, j, ⟨s, j, fs, own, G1, v2, v3, rfl, T1, hrun, Nat.le_refl _⟩, by omega, rfl⟩
end
end Zr
end
section
set_option maxRecDepth 100000
set_option maxHeartbeats 2000000
/-! A value is told: the walk. -/
namespace Zr
open PySem PySem.Spec PyProof.Rows L2 L2H
open Zp (oi Lf flats kids headOf wts wtV)
section
variable {a : Adr}
def LfOne (a : Adr) (G : Hp) : Lf → Addr → Prop
  | .oct l, p => Oc G p l ∧ l ≠ []
  | .val v, p => PAt a G v p
def LfAll (a : Adr) (G : Hp) : List Lf → List Addr → Prop
  | [], ps => ps = []
  | x :: L, ps => ∃ q r, ps = q :: r ∧ LfOne a G x q ∧ LfAll a G L r
theorem LfOne.same {G G' : Hp} (s : Same G G') {x : Lf} {p : Addr} (h : LfOne a G x p) : LfOne a G' x p := by
  cases x with
  | oct l => exact ⟨s _ _ h.1, h.2⟩
  | val v => exact PAt.same s _ _ h
theorem LfAll.same {G G' : Hp} (s : Same G G') : ∀ {L : List Lf} {ps : List Addr}, LfAll a G L ps → LfAll a G' L ps
  | [], _, h => h
  | x :: L, _, ⟨q, r, e, h1, h2⟩ => ⟨q, r, e, h1.same s, LfAll.same s h2⟩
theorem LfAll.app {G : Hp} {M : List Lf} {qs : List Addr} (k : LfAll a G M qs) : ∀ {L : List Lf} {ps : List Addr}, LfAll a G L ps → LfAll a G (L ++ M) (ps ++ qs)
  | [], _, h => by subst h; exact k
  | x :: L, _, ⟨q, r, e, h1, h2⟩ => by subst e; exact ⟨q, r ++ qs, rfl, h1, LfAll.app k h2⟩
theorem LfAll.snoc {G : Hp} {x : Lf} : ∀ {L : List Lf} {ps : List Addr}, LfAll a G (L ++ [x]) ps → ∃ ps' p, ps = ps' ++ [p] ∧ LfAll a G L ps' ∧ LfOne a G x p
  | [], _, ⟨q, r, e, h1, h2⟩ => by subst e; subst h2; exact ⟨[], q, rfl, rfl, h1⟩
  | y :: L, _, ⟨q, r, e, h1, h2⟩ => by
    subst e
    obtain ⟨ps', p, rfl, k1, k2⟩ := LfAll.snoc h2
    exact ⟨q :: ps', p, rfl, ⟨q, ps', rfl, h1, k1⟩, k2⟩
theorem LfAll.len {G : Hp} : ∀ {L : List Lf} {ps : List Addr}, LfAll a G L ps → ps.length = L.length
  | [], _, h => by subst h; rfl
  | x :: L, _, ⟨q, r, e, h1, h2⟩ => by subst e; simp [LfAll.len h2]
theorem write_ne : ∀ v : RWire.Value, RWire.write v ≠ []
  | .nothing => by simp [RWire.write]
  | .null => by simp [RWire.write]
  | .bool b => by simp [RWire.write]
  | .int i => by simp [RWire.write]
  | .big i => by simp [RWire.write]
  | .text u => by simp [RWire.write]
  | .octets u => by simp [RWire.write]
  | .wide u => by simp [RWire.write]
  | .list l => by simp [RWire.write]
  | .record l => by simp [RWire.write]
theorem LfAll.few {G : Hp} : ∀ {L : List Lf} {ps : List Addr}, LfAll a G L ps → L.length ≤ (flats L).length
  | [], _, h => by simp
  | x :: L, _, ⟨q, r, e, h1, h2⟩ => by
    have ih := LfAll.few h2
    have e2 : flats (x :: L) = flats L ++ x.flat := by simp [flats]
    have h3 : x.flat ≠ [] := by
      cases x with
      | oct l => exact h1.2
      | val v => exact write_ne v
    have h4 : 0 < x.flat.length := List.length_pos_iff.mpr h3
    rw [e2, List.length_append, List.length_cons]
    omega
theorem lf_vals {G : Hp} : ∀ {vs : List RWire.Value} {ps : List Addr}, PAll a G vs ps → LfAll a G ((vs.map Lf.val).reverse) ps.reverse
  | [], _, h => by subst h; rfl
  | v :: vs, _, ⟨q, r, e, h1, h2⟩ => by
    subst e
    rw [List.map_cons, List.reverse_cons, List.reverse_cons]
    exact (LfAll.app (M := [Lf.val v]) (qs := [q]) ⟨q, [], rfl, h1, rfl⟩ (lf_vals h2))
/-- while a value is told: what was told, what is left -/
structure To (a : Adr) (H : Hp) (fo lo : Addr) (done : RWire.Text) (L : List Lf) (ps : List Addr) (G1 H1 : Hp) : Prop where
  gr : Grow H H G1 H1
  fn : H fo = none
  ln : H lo = none
  ne : fo ≠ lo
  gf : G1 fo = none
  gl : G1 lo = none
  fo_ : H1 fo = some (.lst ((oi done).map V.int))
  lo_ : H1 lo = some (.lst (ps.map V.ref))
  al : LfAll a G1 L ps
section
variable {H G1 H1 H2 : Hp} {fo lo : Addr} {done : RWire.Text} {L : List Lf} {ps : List Addr}
theorem Grow.poke {G H G1 H1 : Hp} {b : Addr} {o : HO} (x : Grow G H G1 H1) (h : H b = none) (g : G1 b = none) : Grow G H G1 (upd H1 b o) :=
  ⟨x.up, fun c u e => by rw [upd_ne (ne_of_none e g)]; exact x.sub c u e, fun c u e => by rw [upd_ne (ne_of_none e h)]; exact x.same c u e, x.new⟩
theorem To.loose (T : To a H fo lo done L ps G1 H1) (x : Same H1 H2) : To a H fo lo done L ps G1 H2 := ⟨T.gr.loose x, T.fn, T.ln, T.ne, T.gf, T.gl, x _ _ T.fo_, x _ _ T.lo_, T.al⟩
theorem To.say (T : To a H fo lo done L ps G1 H1) (u : RWire.Text) {ns : List Int} (e : ns = oi u) : To a H fo lo (done ++ u) L ps G1 (upd H1 fo (.lst ((oi done).map V.int ++ ns.map V.int))) := by
  subst e
  exact ⟨T.gr.poke T.fn T.gf, T.fn, T.ln, T.ne, T.gf, T.gl, by rw [upd_same, Zp.oi_app, List.map_append], by rw [upd_ne (Ne.symm T.ne)]; exact T.lo_, T.al⟩
theorem To.put (T : To a H fo lo done L ps G1 H1) {M : List Lf} {qs : List Addr} {vs : List V} (e : vs = qs.map V.ref) (k : LfAll a G1 M qs) : To a H fo lo done (L ++ M) (ps ++ qs) G1 (upd H1 lo (.lst (ps.map V.ref ++ vs))) := by
  subst e
  exact ⟨T.gr.poke T.ln T.gl, T.fn, T.ln, T.ne, T.gf, T.gl, by rw [upd_ne T.ne]; exact T.fo_, by rw [upd_same, List.map_append], LfAll.app k T.al⟩
theorem To.take {ps' : List Addr} (T : To a H fo lo done L ps G1 H1) {L' : List Lf} (k : LfAll a G1 L' ps') : To a H fo lo done L' ps' G1 (upd H1 lo (.lst (ps'.map V.ref))) :=
  ⟨T.gr.poke T.ln T.gl, T.fn, T.ln, T.ne, T.gf, T.gl, by rw [upd_ne T.ne]; exact T.fo_, upd_same, k⟩
/-- new octets that are kept -/
theorem To.keepOc {p : Addr} {u : RWire.Text} (T : To a H fo lo done L ps G1 H1) (x : Same H1 H2) (n : H1 p = none) (e : Oc H2 p u) : ∃ G2, To a H fo lo done L ps G2 H2 ∧ Same G1 G2 ∧ Oc G2 p u := by
  have gp := sm_none T.gr.sub n
  refine ⟨upd G1 p _, ⟨(T.gr.loose x).keep e (sm_none T.gr.same n) gp, T.fn, T.ln, T.ne, ?_, ?_, x _ _ T.fo_, x _ _ T.lo_, T.al.same (sm_upd gp)⟩, sm_upd gp, upd_same⟩
  · rw [upd_ne (fun z => by rw [← z, T.fo_] at n; cases n)]; exact T.gf
  · rw [upd_ne (fun z => by rw [← z, T.lo_] at n; cases n)]; exact T.gl
end
end
section
variable {P : Program} {w : World} {K : PySem.W.Frag} {mg : Str → Option Value} {base : Heap} {a : Adr}
theorem kit_list (K : PySem.W.Frag) : PySem.W.kitOne K (.type "list") (.type "list") = some true := by
  unfold PySem.W.kitOne
  rw [if_pos (by rfl)]
theorem pents_len {G : Hp} : ∀ {es : List (RWire.Text × RWire.Value)} {ts : List Addr}, PEnts a G es ts → ts.length = es.length
  | [], _, h => by subst h; rfl
  | e :: es, _, ⟨t, n, q, r, e1, _, _, _, h⟩ => by subst e1; simp [pents_len h]
theorem pents_get {G : Hp} : ∀ {es : List (RWire.Text × RWire.Value)} {ts : List Addr} {i : Nat} {t : Addr}, PEnts a G es ts → ts[i]? = some t → ∃ e n q, es[i]? = some e ∧ G t = some (.tup [.ref n, .ref q]) ∧ Oc G n e.1 ∧ PAt a G e.2 q
  | [], _, i, _, h, k => by subst h; simp at k
  | e :: es, _, 0, _, ⟨t, n, q, r, e1, h1, h2, h3, _⟩, k => by subst e1; cases k; exact ⟨e, n, q, rfl, h1, h2, h3⟩
  | e :: es, _, i + 1, _, ⟨t, n, q, r, e1, _, _, _, h⟩, k => by subst e1; obtain ⟨e', n', q', k1, k2⟩ := pents_get h (i := i) (by simpa using k); exact ⟨e', n', q', by simpa using k1, k2⟩
theorem kidsEnt_drop (es : List (RWire.Text × RWire.Value)) (i : Nat) (e : RWire.Text × RWire.Value) (h : es[i]? = some e) : Zp.kidsEnt (es.drop i) = Zp.kidsEnt (es.drop (i + 1)) ++ [.val e.2, .oct (RWire.writeText e.1)] := by
  have hi := (List.getElem?_eq_some_iff.mp h).1
  have e1 : es.drop i = e :: es.drop (i + 1) := by
    rw [List.drop_eq_getElem_cons hi]
    have := (List.getElem?_eq_some_iff.mp h).2
    rw [this]
  rw [e1]
  rfl
theorem ent_le (es : List (RWire.Text × RWire.Value)) : ∀ k : Nat, (RWire.writeEntries (es.drop k)).length ≤ (RWire.writeEntries es).length
  | 0 => by simp
  | k + 1 => by
    have ih := ent_le es k
    cases h : es.drop k with
    | nil =>
      have : es.drop (k + 1) = [] := by rw [← List.drop_drop, h]; rfl
      rw [this]; simp [RWire.writeEntries]
    | cons e r =>
      have : es.drop (k + 1) = r := by rw [← List.drop_drop, h]; rfl
      rw [this]
      rw [h] at ih
      simp only [RWire.writeEntries, List.length_append] at ih
      omega
theorem kidsEnt_few : ∀ es : List (RWire.Text × RWire.Value), (Zp.kidsEnt es).length ≤ (RWire.writeEntries es).length
  | [] => by simp [Zp.kidsEnt]
  | e :: es => by
    have ih := kidsEnt_few es
    have h4 : 0 < (RWire.write e.2).length := List.length_pos_iff.mpr (write_ne e.2)
    have h5 : (RWire.writeText e.1).length = 4 + e.1.length := by
      show (RWire.low 4 e.1.length ++ e.1).length = _
      rw [List.length_append, Zp.low_length]
    simp only [Zp.kidsEnt, RWire.writeEntries, List.length_append, List.length_cons, List.length_nil]
    omega
/-- the octet of a value's kind -/
def kb : RWire.Value → UInt8
  | .nothing => 0 | .null => 1 | .bool b => if b then 3 else 2 | .int _ => 4 | .big _ => 5 | .text _ => 6 | .list _ => 7 | .record _ => 8 | .octets _ => 10 | .wide _ => 11
theorem kb_knd (v : RWire.Value) : [knd v] = oi [kb v] := by
  cases v with
  | bool b => cases b <;> rfl
  | _ => rfl
theorem c_told (T : Txt K mg a) : Cal P w K mg base 3 "told" (sp1 fun x H Q E => ∃ (p : Addr) (v : RWire.Value), x = .ref p ∧ PAt a H v p ∧ (RWire.write v).length ≤ 1000000 ∧ spOc (oi (RWire.write v)) H Q) := by
  refine cal T.d_told sc_told len1 fun f cdv A outer s H vs Q E hr h => ?_
  obtain ⟨_, rfl, p, v, rfl, hp, hz, q⟩ := h
  refine ⟨_, (pss_cons (ps_set (i := 1) sc_told.nd rfl (Or.inl rfl) (pe_lst pa_nil))
    (pss_cons (ps_set (i := 2) sc_told.nd rfl (Or.inl rfl) (pe_lst (pa_cons (pv 0) pa_nil)))
    (pss_cons (ps_while PassesOwn.never (pt_cmpR op_gt (pe_callB call_len_seq rfl T.b_len (by decide +kernel) (pa_cons (pv 2) pa_nil)) pe_int (nomark _)) (pss_cons (ps_set (i := 3) sc_told.nd rfl (Or.inl rfl) (pe_bm0 PySem.F.plainAttrs_list PySem.F.slot_list_pop PySem.F.type_list_pop mt_pop (pv 2)))
    (pss_one (ps_if (pt_val (pe_callB call_isi rfl T.b_isinstance (by decide +kernel) (pa_cons (pv 3) (pa_cons (pe_bltn (v := .ty "list") rfl T.b_list (by decide +kernel) rfl) pa_nil)))) (pss_one (ps_expr (pe_bm PySem.F.plainAttrs_list PySem.F.slot_list_extend PySem.F.type_list_extend mt_extend (pv 1) (pa_cons (pv 3) pa_nil)))) (pss_cons (ps_expr (pe_bm PySem.F.plainAttrs_list PySem.F.slot_list_append PySem.F.type_list_append mt_append (pv 1) (pa_cons (pe_f T.c_Piece.cl T.n_Piece_kind (pv 3)) pa_nil)))
    (pss_one (ps_if (pt_cmpR op_eq (pe_f T.c_Piece.cl T.n_Piece_kind (pv 3)) (pe_gc rfl T.k_INTEGER) (nomark _)) (pss_one (ps_expr (pe_bm PySem.F.plainAttrs_list PySem.F.slot_list_extend PySem.F.type_list_extend mt_extend (pv 1) (pa_cons (pe_cw (c_number_octets T) (roomH_of hr) (by decide) (.inl rfl) rfl (pa_cons (pe_f T.c_Piece.cl T.n_Piece_content (pv 3)) (pa_cons pe_int pa_nil))) pa_nil)))) (pss_one (ps_if (pt_cmpR op_eq (pe_f T.c_Piece.cl T.n_Piece_kind (pv 3)) (pe_gc rfl T.k_TEXT) (nomark _)) (pss_one (ps_expr (pe_bm PySem.F.plainAttrs_list PySem.F.slot_list_extend PySem.F.type_list_extend mt_extend (pv 1) (pa_cons (pe_cw (c_counted T) (roomH_of hr) (by decide) (.inl rfl) rfl (pa_cons (pe_f T.c_Piece.cl T.n_Piece_content (pv 3)) pa_nil)) pa_nil)))) (pss_one (ps_if (pt_cmpR op_eq (pe_f T.c_Piece.cl T.n_Piece_kind (pv 3)) (pe_gc rfl T.k_LIST) (nomark _)) (pss_cons (ps_expr (pe_bm PySem.F.plainAttrs_list PySem.F.slot_list_extend PySem.F.type_list_extend mt_extend (pv 1) (pa_cons (pe_cw (c_number_octets T) (roomH_of hr) (by decide) (.inl rfl) rfl (pa_cons (pe_callB call_len_seq rfl T.b_len (by decide +kernel) (pa_cons (pe_f T.c_Piece.cl T.n_Piece_content (pv 3)) pa_nil)) (pa_cons pe_int pa_nil))) pa_nil)))
    (pss_one (ps_expr (pe_bm PySem.F.plainAttrs_list PySem.F.slot_list_extend PySem.F.type_list_extend mt_extend (pv 2) (pa_cons (pe_revL (pe_f T.c_Piece.cl T.n_Piece_content (pv 3))) pa_nil))))) (pss_one (ps_if (pt_cmpR op_eq (pe_f T.c_Piece.cl T.n_Piece_kind (pv 3)) (pe_gc rfl T.k_RECORD) (nomark _)) (pss_cons (ps_expr (pe_bm PySem.F.plainAttrs_list PySem.F.slot_list_extend PySem.F.type_list_extend mt_extend (pv 1) (pa_cons (pe_cw (c_number_octets T) (roomH_of hr) (by decide) (.inl rfl) rfl (pa_cons (pe_callB call_len_seq rfl T.b_len (by decide +kernel) (pa_cons (pe_f T.c_Piece.cl T.n_Piece_content (pv 3)) pa_nil)) (pa_cons pe_int pa_nil))) pa_nil)))
    (pss_one (ps_for PassesOwn.never rfl (pi_list (pe_revL (pe_f T.c_Piece.cl T.n_Piece_content (pv 3)))) (pg_tup rfl (pgs_cons (pg_name (i := 4) sc_told.nd rfl (Or.inl rfl)) (pgs_cons (pg_name (i := 5) sc_told.nd rfl (Or.inl rfl)) pgs_nil))) (pss_one (ps_expr (pe_bm PySem.F.plainAttrs_list PySem.F.slot_list_extend PySem.F.type_list_extend mt_extend (pv 2) (pa_cons (pe_lst (pa_cons (pv 5) (pa_cons (pe_cw (c_counted T) (roomH_of hr) (by decide) (.inl rfl) rfl (pa_cons (pv 4) pa_nil)) pa_nil))) pa_nil))))))) pss_nil)))))))))))))
    (pss_one (ps_ret (pv 1)))))), ?_⟩
  refine ⟨fit rfl, fun fo hfo => ⟨_, rfl, fit rfl, fun lo hlo => ?_⟩⟩
  obtain ⟨hlf, hlo2⟩ := upd_none hlo
  have nfl : fo ≠ lo := Ne.symm hlf
  have T0 : To a H fo lo [] [.val v] [p] H (upd (upd H fo (.lst [])) lo (.lst [.ref p])) :=
    ⟨((Grow.refl (Same.refl H)).poke hfo hfo).poke hlo2 hlo2, hfo, hlo2, nfl, hfo, hlo2, by rw [upd_ne nfl, upd_same]; rfl, by rw [upd_same]; rfl, ⟨p, [], rfl, hp, rfl⟩⟩
  refine ⟨fun m σ H1 => ∃ (done : RWire.Text) (L : List Lf) (ps : List Addr) (G1 : Hp) (v3 v4 v5 : Option V), σ = [some (.ref p), some (.ref fo), some (.ref lo), v3, v4, v5] ∧ To a H fo lo done L ps G1 H1 ∧ done ++ flats L = RWire.write v ∧ wts L = m, ⟨_, [], [.val v], [p], H, none, none, none, rfl, T0, by simp [flats, Lf.flat], rfl⟩, ?_⟩
  rintro m σ H1 ⟨done, L, ps, G1, v3, v4, v5, rfl, T1, he, rfl⟩
  have hlen : done.length + (flats L).length ≤ 1000000 := by rw [← List.length_append, he]; exact hz
  have hfew := T1.al.few
  have hpl := T1.al.len
  have hdn : ((oi done).map V.int).length = done.length := by rw [List.length_map, Zp.oi_len]
  refine ⟨_, rfl, lo, _, rfl, .inl (SqL.of T1.lo_), _, _, rfl, rfl, _, rfl, ?_⟩
  rcases List.eq_nil_or_concat L with rfl | ⟨L', x, rfl⟩
  · have e0 : ps = [] := List.eq_nil_of_length_eq_zero hpl
    subst e0
    refine ifF rfl ⟨_, rfl, ?_⟩
    have e1 : done = RWire.write v := by simpa [flats] using he
    exact q H1 fo hfo T1.gr.same (by rw [← e1]; exact T1.fo_)
  · rw [List.concat_eq_append] at *
    obtain ⟨ps', p1, rfl, k1, k2⟩ := T1.al.snoc
    refine ifT (by simp) ⟨fun σ H1 => ∃ m', m' < wts (L' ++ [x]) ∧ ∃ (done : RWire.Text) (L : List Lf) (ps : List Addr) (G1 : Hp) (v3 v4 v5 : Option V), σ = [some (.ref p), some (.ref fo), some (.ref lo), v3, v4, v5] ∧ To a H fo lo done L ps G1 H1 ∧ done ++ flats L = RWire.write v ∧ wts L = m', fun _ _ h => h, ?_⟩
    refine ⟨_, rfl, .inl ⟨rfl, _, SqL.of T1.lo_⟩, lo, _, _, rfl, rfl, T1.lo_, last_ref _ _, ?_⟩
    rw [dropLast_ref]
    have T2 := T1.take (ps' := ps') k1
    have wx : wts (L' ++ [x]) = wts L' + x.wt := by rw [Zp.wts_app]; simp [wts]
    rw [Zp.flats_snoc, List.length_append] at hlen
    rw [Zp.flats_snoc] at he
    cases x with
    | oct u =>
      have k2' := T2.gr.sub _ _ k2.1
      refine ⟨_, rfl, _, _, _, _, true, rfl, .ty "list", .base (.lst k2'), kit_list K, _, rfl, ifT rfl ⟨_, rfl, .inl ⟨rfl, _, SqL.of T2.fo_⟩, _, rfl, fo, p1, _, _, rfl, rfl, T2.fo_, k2', ?_, ?_⟩⟩
      · have h2 : Lf.flat (.oct u) = u := rfl
        rw [h2] at hlen
        rw [hdn, List.length_map, Zp.oi_len, sizeLine_eq]
        omega
      · exact ⟨wts L', by rw [wx]; simp [Lf.wt], done ++ u, L', ps', G1, _, _, _, rfl, T2.say u rfl, by rw [List.append_assoc]; exact he, rfl⟩
    | val v1 =>
      have k2 : PAt a G1 v1 p1 := k2
      obtain ⟨c, dx, ek⟩ := pat_kind k2
      have ek2 := T2.gr.sub _ _ ek
      refine ⟨_, rfl, _, _, _, _, false, rfl, .ty "list", .base (.ins ek2 T.c_Piece.cl T.nl.ha T.nl.hn T.nl.htk T.nl.hm), T.nl.kl, _, rfl, ifF rfl ?_⟩
      have hw : RWire.write v1 = headOf v1 ++ flats (kids v1) := Zp.write_kids v1
      have hl2 : (Lf.val v1).flat.length = (headOf v1).length + (flats (kids v1)).length := by rw [← List.length_append, ← hw]; rfl
      rw [hl2] at hlen
      have fin : ∀ (done' : RWire.Text) (L2 : List Lf) (ps2 : List Addr) (G2 H2 : Hp) (v3 v4 v5 : Option V), To a H fo lo done' L2 ps2 G2 H2 → done' = done ++ headOf v1 → L2 = L' ++ kids v1 →
          ∃ m', m' < wts (L' ++ [Lf.val v1]) ∧ ∃ (done : RWire.Text) (L : List Lf) (ps : List Addr) (G1 : Hp) (w3 w4 w5 : Option V), [some (V.ref p), some (V.ref fo), some (V.ref lo), v3, v4, v5] = [some (.ref p), some (.ref fo), some (.ref lo), w3, w4, w5] ∧ To a H fo lo done L ps G1 H2 ∧ done ++ flats L = RWire.write v ∧ wts L = m' := by
        intro done' L2 ps2 G2 H2 v3 v4 v5 T' e1 e2
        subst e1 e2
        refine ⟨_, ?_, _, _, _, _, _, _, _, rfl, T', ?_, rfl⟩
        · have := Zp.wts_kids v1
          rw [wx, Zp.wts_app]
          show wts L' + wts (kids v1) < wts L' + wtV v1
          omega
        · rw [Zp.flats_app, ← he]
          show _ = done ++ (RWire.write v1 ++ _)
          rw [hw]
          simp
      have T3 := T2.say [kb v1] (kb_knd v1)
      have ek3 := T3.gr.sub _ _ ek
      have hdn3 : ((oi (done ++ [kb v1])).map V.int).length = done.length + 1 := by rw [List.length_map, Zp.oi_len]; simp
      refine ⟨_, rfl, .inl ⟨rfl, _, SqL.of T2.fo_⟩, _, rfl, p1, dx, _, _, rfl, ek2, rfl, fo, _, _, rfl, rfl, T2.fo_, by rw [hdn, sizeLine_eq]; omega, ?_⟩
      refine ⟨_, rfl, p1, dx, _, _, rfl, ek3, rfl, rfl, _, rfl, ?_⟩
      have skip4 : ∀ {A B : Prop}, knd v1 ≠ 4 → B → if decide (V.int (knd v1) = V.int 4) = true then A else B := fun h k => ifF (neI h) k
      cases v1 with
      | int i0 =>
        refine ifT (eqI rfl) ?_
        obtain ⟨dx', ek'⟩ := k2
        have ek4 := T3.gr.sub _ _ ek'
        refine ⟨_, rfl, .inl ⟨rfl, _, SqL.of T3.fo_⟩, _, rfl, p1, dx', _, _, rfl, ek4, rfl, _, _, rfl, i0, 8, rfl, rfl, by decide, fun H4 l4 n4 s4 e4 => ?_⟩
        have T4 := T3.loose s4
        refine ⟨fo, l4, _, _, rfl, rfl, T4.fo_, e4, ?_, ?_⟩
        · rw [hdn3, sizeLine_eq]; simp; omega
        · exact fin _ L' ps' G1 _ _ _ _ (T4.say (RWire.writeInt i0) (Zp.oi_int i0).symm) (by rw [List.append_assoc]; rfl) (by simp [kids])
      | text u0 =>
        refine ifF (neI (by show (6 : Int) ≠ 4; decide)) ?_
        refine ⟨_, rfl, p1, dx, _, _, rfl, ek3, rfl, rfl, _, rfl, ifT (eqI rfl) ?_⟩
        obtain ⟨l0, ⟨dx', ek'⟩, ho⟩ := k2
        have ek4 := T3.gr.sub _ _ ek'
        have hu0 : u0.length ≤ 1000000 := by
          have : (headOf (.text u0)).length = 5 + u0.length := by
            show (6 :: (RWire.low 4 u0.length ++ u0)).length = _
            rw [List.length_cons, List.length_append, Zp.low_length]
            omega
          omega
        refine ⟨_, rfl, .inl ⟨rfl, _, SqL.of T3.fo_⟩, _, rfl, p1, dx', _, _, rfl, ek4, rfl, _, rfl, l0, u0, rfl, T3.gr.sub _ _ ho, by omega, fun H4 l4 n4 s4 e4 => ?_⟩
        have T4 := T3.loose s4
        refine ⟨fo, l4, _, _, rfl, rfl, T4.fo_, e4, ?_, ?_⟩
        · rw [hdn3, List.length_map, Zp.oi_len, sizeLine_eq]
          have : (headOf (.text u0)).length = (RWire.writeText u0).length + 1 := rfl
          omega
        · exact fin _ L' ps' G1 _ _ _ _ (T4.say (RWire.writeText u0) rfl) (by rw [List.append_assoc]; rfl) (by simp [kids])
      | list vs =>
        refine ifF (neI (by show (7 : Int) ≠ 4; decide)) ⟨_, rfl, p1, dx, _, _, rfl, ek3, rfl, rfl, _, rfl, ifF (neI (by show (7 : Int) ≠ 6; decide)) ⟨_, rfl, p1, dx, _, _, rfl, ek3, rfl, rfl, _, rfl, ifT (eqI rfl) ?_⟩⟩
        obtain ⟨l0, qs, ⟨dx', ek'⟩, ho, hall⟩ := k2
        have ek4 := T3.gr.sub _ _ ek'
        have hql : qs.length = vs.length := (pall_len hall).symm
        refine ⟨_, rfl, .inl ⟨rfl, _, SqL.of T3.fo_⟩, _, rfl, p1, dx', _, _, rfl, ek4, rfl, l0, _, rfl, .inl (SqL.of (T3.gr.sub _ _ ho)), _, _, rfl, _, 4, rfl, rfl, by decide, fun H4 l4 n4 s4 e4 => ?_⟩
        have T4 := T3.loose s4
        have T5 := T4.say (RWire.writeCount vs.length) (ns := (List.range 4).map fun p => Zp.octAt ((qs.map V.ref).length : Int) p) (by
          rw [List.length_map, hql]
          exact (Zp.oi_low 4 vs.length).symm)
        refine ⟨fo, l4, _, _, rfl, rfl, T4.fo_, e4, ?_, ?_⟩
        · rw [hdn3, sizeLine_eq]; simp; omega
        have ek5 := T5.gr.sub _ _ ek'
        refine ⟨_, rfl, .inl ⟨rfl, _, SqL.of T5.lo_⟩, _, rfl, p1, dx', _, _, rfl, ek5, rfl, l0, _, rfl, SqL.of (T5.gr.sub _ _ ho), fun l6 n6 => ?_⟩
        have T6 := T5.loose (sm_upd (o := .lst (qs.map V.ref).reverse) n6)
        refine ⟨lo, l6, _, _, rfl, rfl, T6.lo_, upd_same, ?_, ?_⟩
        · have h1 := LfAll.few (lf_vals hall)
          have h2 := LfAll.len (lf_vals hall)
          rw [List.length_append] at hpl
          have h3 : (flats (kids (.list vs))).length = (flats ((vs.map Lf.val).reverse)).length := rfl
          simp at h2 hpl hfew ⊢
          simp at h1
          rw [sizeLine_eq]
          have h4 := k1.few
          have h5 := k1.len
          simp [kids] at hlen
          omega
        · exact fin _ _ _ _ _ _ _ _ (T6.put (M := (vs.map Lf.val).reverse) (qs := qs.reverse) (by rw [List.map_reverse]) (lf_vals hall)) (by rw [List.append_assoc]; rfl) rfl
      | record es =>
        refine ifF (neI (by show (8 : Int) ≠ 4; decide)) ⟨_, rfl, p1, dx, _, _, rfl, ek3, rfl, rfl, _, rfl, ifF (neI (by show (8 : Int) ≠ 6; decide)) ⟨_, rfl, p1, dx, _, _, rfl, ek3, rfl, rfl, _, rfl, ifF (neI (by show (8 : Int) ≠ 7; decide)) ⟨_, rfl, p1, dx, _, _, rfl, ek3, rfl, rfl, _, rfl, ifT (eqI rfl) ?_⟩⟩⟩
        obtain ⟨l0, ts, ⟨dx', ek'⟩, ho, hall⟩ := k2
        have ek4 := T3.gr.sub _ _ ek'
        have hql : ts.length = es.length := pents_len hall
        refine ⟨_, rfl, .inl ⟨rfl, _, SqL.of T3.fo_⟩, _, rfl, p1, dx', _, _, rfl, ek4, rfl, l0, _, rfl, .inl (SqL.of (T3.gr.sub _ _ ho)), _, _, rfl, _, 4, rfl, rfl, by decide, fun H4 l4 n4 s4 e4 => ?_⟩
        have T4 := T3.loose s4
        have T5 := T4.say (RWire.writeCount es.length) (ns := (List.range 4).map fun p => Zp.octAt ((ts.map V.ref).length : Int) p) (by
          rw [List.length_map, hql]
          exact (Zp.oi_low 4 es.length).symm)
        refine ⟨fo, l4, _, _, rfl, rfl, T4.fo_, e4, ?_, ?_⟩
        · rw [hdn3, sizeLine_eq]; simp; omega
        have ek5 := T5.gr.sub _ _ ek'
        refine ⟨_, rfl, p1, dx', _, _, rfl, ek5, rfl, l0, _, rfl, SqL.of (T5.gr.sub _ _ ho), fun l6 n6 => ?_⟩
        have T6 := T5.loose (sm_upd (o := .lst (ts.map V.ref).reverse) n6)
        have l6fo : l6 ≠ fo := Ne.symm (ne_of_none T5.fo_ n6)
        have l6lo : l6 ≠ lo := Ne.symm (ne_of_none T5.lo_ n6)
        refine ⟨l6, rfl, ⟨_, SqL.of upd_same⟩, for_list (xs := (ts.map V.ref).reverse) (fun i σ HH => ∃ (ps2 : List Addr) (G2 : Hp) (v4 v5 : Option V), σ = [some (.ref p), some (.ref fo), some (.ref lo), some (.ref p1), v4, v5] ∧ To a H fo lo (done ++ [kb (.record es)] ++ RWire.writeCount es.length) (L' ++ Zp.kidsEnt (es.drop (es.length - i))) ps2 G2 HH ∧ Same G1 G2 ∧ HH l6 = some (.lst (ts.map V.ref).reverse)) ⟨ps', G1, _, _, rfl, ?_, Same.refl _, upd_same⟩ ?_ ?_ ?_⟩
        · rw [Nat.sub_zero, List.drop_length]
          show To a H fo lo _ (L' ++ []) ps' G1 _
          rw [List.append_nil]
          exact T6
        · rintro i σ HH _ ⟨ps2, G2, v4, v5, rfl, T7, s7, e7⟩
          exact SqL.of e7
        · rintro i x σ HH hx ⟨ps2, G2, v4, v5, rfl, T7, s7, e7⟩
          have hi : i < ts.length := by
            have := (List.getElem?_eq_some_iff.mp hx).1
            simpa using this
          obtain ⟨t, ht, rfl⟩ : ∃ t, ts[ts.length - 1 - i]? = some t ∧ x = .ref t := by
            rw [List.getElem?_reverse (by simpa using hi), List.length_map, List.getElem?_map, List.getElem?_eq_getElem (by omega)] at hx
            exact ⟨_, List.getElem?_eq_getElem (by omega), (Option.some.inj hx).symm⟩
          obtain ⟨e, n, q2, he2, h1, h2, h3⟩ := pents_get (PEnts.same s7 _ _ hall) ht
          have hk := kidsEnt_drop es (ts.length - 1 - i) e he2
          have ha : ts.length - 1 - i + 1 = es.length - i := by omega
          have hb : ts.length - 1 - i = es.length - (i + 1) := by omega
          rw [ha, hb] at hk
          have hne : e.1.length ≤ 1000000 ∧ L'.length + (Zp.kidsEnt (es.drop (es.length - (i + 1)))).length ≤ 1000000 := by
            have g1 := ent_le es (es.length - (i + 1))
            have g2 : RWire.writeEntries (es.drop (es.length - (i + 1))) = RWire.writeText e.1 ++ (RWire.write e.2 ++ RWire.writeEntries (es.drop (es.length - (i + 1) + 1))) := by
              rw [← hb, List.drop_eq_getElem_cons (by omega)]
              have := (List.getElem?_eq_some_iff.mp he2).2
              rw [this]
              rfl
            have g3 : (headOf (.record es)).length + (flats (kids (.record es))).length ≤ 1000000 := by omega
            have g4 : (flats (kids (.record es))).length = (RWire.writeEntries es).length := by rw [show kids (.record es) = Zp.kidsEnt es from rfl, Zp.flats_ent]
            have g5 : (RWire.writeText e.1).length = 4 + e.1.length := by
              show (RWire.low 4 e.1.length ++ e.1).length = _
              rw [List.length_append, Zp.low_length]
            have g6 := k1.few
            have g7 := kidsEnt_few (es.drop (es.length - (i + 1)))
            have g8 := congrArg List.length g2
            simp only [List.length_append] at g8
            omega
          refine ⟨t, _, rfl, SqT.of (T7.gr.sub _ _ h1), rfl, _, _, rfl, _, _, rfl, rfl, ?_⟩
          refine ⟨_, rfl, .inl ⟨rfl, _, SqL.of T7.lo_⟩, _, rfl, _, rfl, _, rfl, n, e.1, rfl, T7.gr.sub _ _ h2, by omega, fun H8 l8 n8 s8 e8 => ⟨fit rfl, fun l9 n9 => ?_⟩⟩
          obtain ⟨G3, T8, s9, e9⟩ := T7.keepOc s8 n8 e8
          have T9 := T8.loose (sm_upd (o := .lst [.ref q2, .ref l8]) n9)
          refine ⟨lo, l9, _, _, rfl, rfl, T9.lo_, upd_same, ?_, ?_⟩
          · have g1 := T9.al.len
            rw [List.length_map, g1, sizeLine_eq]
            rw [hk, List.length_append] at hne
            simp at hne ⊢
            omega
          · have T10 := T9.put (M := [.val e.2, .oct (RWire.writeText e.1)]) (qs := [q2, l8]) rfl ⟨q2, [l8], rfl, PAt.same s9 _ _ h3, l8, [], rfl, ⟨e9, by simp [RWire.writeText, RWire.writeCount, RWire.low]⟩, rfl⟩
            refine ⟨_, G3, _, _, rfl, by rw [hk, ← List.append_assoc]; exact T10, s7.trans s9, ?_⟩
            have d1 : l6 ≠ l9 := ne_of_none (s8 _ _ e7) n9
            rw [upd_ne l6lo, upd_ne d1]
            exact s8 _ _ e7
        · rintro σ HH ⟨ps2, G2, v4, v5, rfl, T7, s7, e7⟩
          have e0 : es.length - ((ts.map V.ref).reverse).length = 0 := by simp; omega
          rw [e0] at T7
          exact fin _ _ _ _ _ _ _ _ T7 (by rw [List.append_assoc]; rfl) rfl
      | nothing => exact ifF (neI (by decide)) ⟨_, rfl, p1, dx, _, _, rfl, ek3, rfl, rfl, _, rfl, ifF (neI (by decide)) ⟨_, rfl, p1, dx, _, _, rfl, ek3, rfl, rfl, _, rfl, ifF (neI (by decide)) ⟨_, rfl, p1, dx, _, _, rfl, ek3, rfl, rfl, _, rfl, ifF (neI (by decide)) (fin _ _ _ _ _ _ _ _ T3 rfl (by simp [kids]))⟩⟩⟩
      | null => exact ifF (neI (by decide)) ⟨_, rfl, p1, dx, _, _, rfl, ek3, rfl, rfl, _, rfl, ifF (neI (by decide)) ⟨_, rfl, p1, dx, _, _, rfl, ek3, rfl, rfl, _, rfl, ifF (neI (by decide)) ⟨_, rfl, p1, dx, _, _, rfl, ek3, rfl, rfl, _, rfl, ifF (neI (by decide)) (fin _ _ _ _ _ _ _ _ T3 rfl (by simp [kids]))⟩⟩⟩
      | bool b =>
        have nb : ∀ k : Int, 3 < k → knd (.bool b) ≠ k := fun k hk z => by cases b <;> simp [knd] at z <;> omega
        refine ifF (neI (nb 4 (by decide))) ⟨_, rfl, p1, dx, _, _, rfl, ek3, rfl, rfl, _, rfl, ifF (neI (nb 6 (by decide))) ⟨_, rfl, p1, dx, _, _, rfl, ek3, rfl, rfl, _, rfl, ifF (neI (nb 7 (by decide))) ⟨_, rfl, p1, dx, _, _, rfl, ek3, rfl, rfl, _, rfl, ifF (neI (nb 8 (by decide))) (fin _ _ _ _ _ _ _ _ T3 (by cases b <;> rfl) (by simp [kids]))⟩⟩⟩
      | big i => exact k2.elim
      | octets u => exact k2.elim
      | wide u => exact k2.elim
end
end Zr
end
section
set_option maxRecDepth 100000
set_option maxHeartbeats 2000000
/-! The defs of reading: refusals, numbers and lists, batches and entries. -/
namespace Zr
open PySem PySem.Spec PyProof.Rows L2 L2H
open Zp (oi)
section
variable {P : Program} {w : World} {K : PySem.W.Frag} {mg : Str → Option Value} {base : Heap} {a : Adr}
/-- an error's own dict -/
def fRef (k : Int) (m : Str) : List (Str × V) := [("message", .str m), ("kind", .int k)]
/-- a refusal leaves -/
def ERef (a : Adr) (k : Int) (m : Str) : Hp → XK → Prop := fun H E => ∀ H' d, Same H H' → H d = none → H' d = some (.xd (fRef k m)) → E (.ref a.refused) (some d) H'
def spRef (a : Adr) : Sp := sp3 fun x y z H Q E => ∃ (p : Addr) (k : Int) (m : Str), x = .ref p ∧ y = .int k ∧ z = .str m ∧ H p = some (exo p a.refused none) ∧
  ∀ dx, H dx = none → Q .non (upd (upd (upd H dx (exd dx [("kind", .int k)])) p (exo p a.refused (some dx))) dx (exd dx (fRef k m)))
theorem k_Refused (T : Txt K mg a) : ∃ (f : Addr) (fd : FuncData), FnOk P w K mg base L2.CX0 1 f fd ["self", "kind", "message"] (spRef a) ∧ PySem.W.findIn K (.ref a.refused) "__init__" = some (some (.ref f)) ∧ PySem.W.typeIn K (.ref f) = some (.type "function") ∧ Binds K fd ["self", "kind", "message"] [] := by
  obtain ⟨f, fd, h1, h2, F, b⟩ := T.refC.ex
  refine ⟨f, fd, F.ok sc_RefusedInit len3 (fun cdv A outer s H vs Q E hr h => ?_), h1, h2, b⟩
  obtain ⟨_, _, _, rfl, p, k, m, rfl, rfl, rfl, hp, q⟩ := h
  refine ⟨_, pss_cons (ps_ost (pv 0) (pv 1)) (pss_one (ps_ost (pv 0) (pv 2))), ?_⟩
  refine ⟨_, rfl, _, rfl, p, a.refused, rfl, T.refC.o, T.refC.nk, .inl ⟨hp, fun dx hdx hne => ?_⟩⟩
  refine ⟨_, rfl, _, rfl, p, a.refused, rfl, T.refC.o, T.refC.nm, .inr ⟨dx, _, upd_same, (by rw [upd_ne hne]; exact upd_same), (by show 1 ≤ 900; decide), q dx hdx⟩⟩
def tMkR (a : Adr) (ta : TA) : L2.St → Hp → XK → Prop := fun σ H Q => ta σ H fun vs H1 => ∃ k m, vs = [.int k, .str m] ∧ ERef a k m H1 Q
/-- as strong a reading as one will -/
def taUp (ta : TA) : TA := fun σ H Q => ∃ R, ta σ H R ∧ ∀ vs H', R vs H' → Q vs H'
theorem pa_up {X : Cx} {es : List Expr} {ta : TA} (ha : PA X es ta) : PA X es (taUp ta) :=
  ⟨fun pos pins s σ H Q I ⟨R, h, k⟩ => thn (ha.run pos pins s σ H R I h) fun us s1 ⟨vs, H1, I1, r, q⟩ => ⟨vs, H1, I1, r, k vs H1 q⟩⟩
theorem pmk_refused {X : Cx} {e : Expr} {es : List Expr} {ta : TA} {p pos : Pos} {j : Nat} (T : Txt X.K X.mg a) (hr : Room j X.A) (hj : 1 + 1 ≤ j) (ha : PA X (e :: es) ta)
    (hg : Gl X "Refused" := by rfl) (he : starEach (e :: es) X.env = (false, eval e X.env) :: starEach es X.env := by rfl) (hpl : (backTo pos (starEach es X.env)).any (·.1) = false := by rfl) :
    L2N.PMk X (.Call (.Name "Refused" p) (e :: es) [] pos) (tMkR a ta) := by
  obtain ⟨f, fd, F, h1, h2, b⟩ := k_Refused (P := X.prog) (w := X.w) (base := X.base) T
  intro pins s σ H Q I h
  refine pmk_oexN (p := p) (pos := pos) T.refC.o h1 h2 F (hr.mono hj) b (fun _ _ _ _ _ _ _ z => z.elim) hg T.refC.g (pa_up ha) (by decide) he hpl pins s σ H Q I ⟨_, h, fun vs H1 hh => ?_⟩
  obtain ⟨k, m, rfl, er⟩ := hh
  refine ⟨(by show 2 ≤ 1000; decide), fun p hp => ⟨_, _, _, rfl, p, k, m, rfl, rfl, rfl, upd_same, fun dx hdx => ?_⟩⟩
  obtain ⟨n1, n2⟩ := upd_none hdx
  refine ⟨rfl, dx, fRef k m, ?_, upd_same, n2, er _ dx (fun b o e => ?_) n2 upd_same⟩
  · rw [upd_ne (Ne.symm n1), upd_same]
  · have m1 : b ≠ p := ne_of_none e hp
    have m2 : b ≠ dx := ne_of_none e n2
    rw [upd_ne m2, del_ne m1, upd_ne m2, upd_ne m1, upd_ne m2, upd_ne m1]
    exact e
theorem c_need (T : Txt K mg a) : CalX P w K mg base 3 "need" (sp2 fun x y H Q E => ∃ (b : Bool) (m : Str), x = .bl b ∧ y = .str m ∧ (b = true → Q .non H) ∧ (b = false → ERef a 1 m H E)) := by
  refine calX T.d_need sc_need len2 fun f cdv A outer s H vs Q E hr h => ?_
  obtain ⟨_, _, rfl, b, m, rfl, rfl, q1, q2⟩ := h
  refine ⟨_, (pss_one (ps_if (pt_not (pt_val (pv 0))) (pss_one (L2N.ps_raise rfl (L2N.takes_of rfl rfl rfl rfl) (pmk_refused T hr (by decide) (pa_cons pe_int (pa_cons (pv 1) pa_nil))))) pss_nil)), ?_⟩
  refine ⟨_, rfl, _, rfl, ?_⟩
  cases b with
  | true => exact ifF rfl (q1 rfl)
  | false => exact ifT rfl ⟨_, rfl, _, _, rfl, q2 rfl⟩
theorem c_check (T : Txt K mg a) : CalX P w K mg base 3 "check" (sp2 fun x y H Q E => ∃ (b : Bool) (m : Str), x = .bl b ∧ y = .str m ∧ (b = true → Q .non H) ∧ (b = false → ERef a 2 m H E)) := by
  refine calX T.d_check sc_check len2 fun f cdv A outer s H vs Q E hr h => ?_
  obtain ⟨_, _, rfl, b, m, rfl, rfl, q1, q2⟩ := h
  refine ⟨_, (pss_one (ps_if (pt_not (pt_val (pv 0))) (pss_one (L2N.ps_raise rfl (L2N.takes_of rfl rfl rfl rfl) (pmk_refused T hr (by decide) (pa_cons pe_int (pa_cons (pv 1) pa_nil))))) pss_nil)), ?_⟩
  refine ⟨_, rfl, _, rfl, ?_⟩
  cases b with
  | true => exact ifF rfl (q1 rfl)
  | false => exact ifT rfl ⟨_, rfl, _, _, rfl, q2 rfl⟩
def isNum (v : RWire.Value) (lo hi : Int) : Bool := match v with
  | .int i => decide (lo ≤ i) && decide (i ≤ hi)
  | _ => false
def isLst (v : RWire.Value) (lo hi : Int) : Bool := match v with
  | .list l => decide (lo ≤ (l.length : Int)) && decide ((l.length : Int) ≤ hi)
  | _ => false
theorem c_is_number (T : Txt K mg a) : Cal P w K mg base 1 "is_number" (sp3 fun x y z H Q E => ∃ (p : Addr) (v : RWire.Value) (lo hi : Int), x = .ref p ∧ y = .int lo ∧ z = .int hi ∧ PAt a H v p ∧ Q (.bl (isNum v lo hi)) H) := by
  refine cal T.d_is_number sc_is_number len3 fun f cdv A outer s H vs Q E hr h => ?_
  obtain ⟨_, _, _, rfl, p, v, lo, hi, rfl, rfl, rfl, hp, q⟩ := h
  refine ⟨_, (pss_one (ps_ret (pe_and (pe_cmpR op_eq (pe_f T.c_Piece.cl T.n_Piece_kind (pv 0)) (pe_gc rfl T.k_INTEGER) (nomark _)) (pe_one (pe_chain op_le op_le (pv 1) (pe_f T.c_Piece.cl T.n_Piece_content (pv 0)) (pv 2)))))), ?_⟩
  obtain ⟨c, dx, hk⟩ := pat_kind hp
  refine ⟨_, rfl, p, dx, _, _, rfl, hk, rfl, rfl, _, rfl, ?_⟩
  by_cases h4 : knd v = 4
  · obtain ⟨i, rfl⟩ := knd_int h4
    obtain ⟨dx2, h2⟩ := hp
    refine ifT (eqI h4) ⟨_, rfl, _, rfl, p, dx2, _, _, rfl, h2, rfl, _, _, rfl, rfl, _, rfl, ?_⟩
    have e : isNum (.int i) lo hi = (decide (lo ≤ i) && decide (i ≤ hi)) := rfl
    rw [e] at q
    cases h1 : decide (lo ≤ i) with
    | true =>
      rw [h1, Bool.true_and] at q
      exact ifT rfl ⟨_, rfl, _, _, rfl, rfl, q⟩
    | false =>
      rw [h1, Bool.false_and] at q
      exact ifF rfl q
  · refine ifF (neI h4) ?_
    have e : isNum v lo hi = false := by
      cases v with
      | int i => exact absurd rfl h4
      | _ => rfl
    rw [e] at q
    exact q
theorem c_is_list (T : Txt K mg a) : Cal P w K mg base 1 "is_list" (sp3 fun x y z H Q E => ∃ (p : Addr) (v : RWire.Value) (lo hi : Int), x = .ref p ∧ y = .int lo ∧ z = .int hi ∧ PAt a H v p ∧ Q (.bl (isLst v lo hi)) H) := by
  refine cal T.d_is_list sc_is_list len3 fun f cdv A outer s H vs Q E hr h => ?_
  obtain ⟨_, _, _, rfl, p, v, lo, hi, rfl, rfl, rfl, hp, q⟩ := h
  refine ⟨_, (pss_one (ps_ret (pe_and (pe_cmpR op_eq (pe_f T.c_Piece.cl T.n_Piece_kind (pv 0)) (pe_gc rfl T.k_LIST) (nomark _)) (pe_one (pe_chain op_le op_le (pv 1) (pe_callB call_len_seq rfl T.b_len (by decide +kernel) (pa_cons (pe_f T.c_Piece.cl T.n_Piece_content (pv 0)) pa_nil)) (pv 2)))))), ?_⟩
  obtain ⟨c, dx, hk⟩ := pat_kind hp
  refine ⟨_, rfl, p, dx, _, _, rfl, hk, rfl, rfl, _, rfl, ?_⟩
  by_cases h7 : knd v = 7
  · obtain ⟨l, rfl⟩ := knd_list h7
    obtain ⟨l0, ps, ⟨dx2, h2⟩, h3, h4⟩ := hp
    refine ifT (eqI h7) ⟨_, rfl, _, rfl, p, dx2, _, _, rfl, h2, rfl, l0, _, rfl, .inl (SqL.of h3), _, _, rfl, rfl, _, rfl, ?_⟩
    have e : isLst (.list l) lo hi = (decide (lo ≤ (l.length : Int)) && decide ((l.length : Int) ≤ hi)) := rfl
    have e2 : (ps.map V.ref).length = l.length := by rw [List.length_map, pall_len h4]
    rw [e, ← e2] at q
    cases h1 : decide (lo ≤ ((ps.map V.ref).length : Int)) with
    | true =>
      rw [h1, Bool.true_and] at q
      exact ifT rfl ⟨_, rfl, _, _, rfl, rfl, q⟩
    | false =>
      rw [h1, Bool.false_and] at q
      exact ifF rfl q
  · refine ifF (neI h7) ?_
    have e : isLst v lo hi = false := by
      cases v with
      | list l => exact absurd rfl h7
      | _ => rfl
    rw [e] at q
    exact q
theorem m_Batch (T : Txt K mg a) : Mak P w K mg base 1 "Batch" a.batch (spIn 2 a.batch (fs2 fBatch)) := by
  refine mak T.c_Batch sc_BatchInit lenIn fun f cdv A outer s H vs Q E hr h => ?_
  obtain ⟨p, dx, us, hl, rfl, hp, q⟩ := h
  match us, hl with
  | [k, c], _ =>
    refine ⟨_, (pss_cons (ps_f T.c_Batch.cl T.n_Batch_conditions (pv 0) (pv 1))
    (pss_one (ps_f T.c_Batch.cl T.n_Batch_writes (pv 0) (pv 2)))), ?_⟩
    refine ⟨_, rfl, _, rfl, p, dx, _, rfl, hp, rfl, _, rfl, _, rfl, p, dx, _, rfl, upd_same, rfl, ?_⟩
    rw [upd_upd]
    exact q
/-- a made entry: its record is a new tuple of two noughts -/
def spEntry (a : Adr) : Sp := sp3 fun x y z H Q E => ∃ (p dx : Addr), x = .ref p ∧ H p = some (.ins a.entry dx []) ∧
  ∀ H' t, (∀ b o, b ≠ p → H b = some o → H' b = some o) → H t = none → H' t = some (.tup [.int 0, .int 0]) → Ins H' p a.entry (fEntry y z (.bl false) (.int 0) (.ref t)) → Q .non H'
theorem m_Entry (T : Txt K mg a) : Mak P w K mg base 1 "Entry" a.entry (spEntry a) := by
  refine mak T.c_Entry sc_EntryInit len3 fun f cdv A outer s H vs Q E hr h => ?_
  obtain ⟨_, y, z, rfl, p, dx, rfl, hp, q⟩ := h
  refine ⟨_, (pss_cons (ps_f T.c_Entry.cl T.n_Entry_form (pv 0) (pv 1))
    (pss_cons (ps_f T.c_Entry.cl T.n_Entry_batch (pv 0) (pv 2))
    (pss_cons (ps_f T.c_Entry.cl T.n_Entry_effect (pv 0) pe_bl)
    (pss_cons (ps_f T.c_Entry.cl T.n_Entry_key (pv 0) pe_int)
    (pss_one (ps_f T.c_Entry.cl T.n_Entry_record (pv 0) (pe_tup (pa_cons pe_int (pa_cons pe_int pa_nil))))))))), ?_⟩
  refine ⟨_, rfl, _, rfl, p, dx, _, rfl, hp, rfl, _, rfl, _, rfl, p, dx, _, rfl, upd_same, rfl, _, rfl, p, dx, _, rfl, upd_same, rfl, _, rfl, p, dx, _, rfl, upd_same, rfl, fit rfl, fun t ht => ?_⟩
  rw [upd_upd, upd_upd, upd_upd] at ht ⊢
  obtain ⟨n1, n2⟩ := upd_none ht
  refine ⟨_, rfl, p, dx, [("form", y), ("batch", z), ("effect", .bl false), ("key", .int 0)], rfl, (by rw [upd_ne (Ne.symm n1), upd_same]; rfl), rfl, q _ t (fun b o hb e => ?_) n2 ?_ ⟨dx, upd_same⟩⟩
  · rw [upd_ne hb, upd_ne (fun z => by rw [← z] at n2; rw [n2] at e; cases e), upd_ne hb]
    exact e
  · rw [upd_ne n1, upd_same]
end
end Zr
end
section
set_option maxRecDepth 100000
set_option maxHeartbeats 2000000
/-! What is read of arguments: the program's tests against the specification's readers. Plain Lean. -/
namespace Zr
open PySem PySem.Spec PyProof.Rows
open R7289g.Spec (keyIn numberIn pairIn pairsIn batchIn recordIn entryIn listIn allSome allDifferent rangeIn rangeInt whole Plain)
open Rust (taken takenAll takenFields)
def numVal : RWire.Value → Option Int
  | .int i => some i
  | _ => none
theorem whole_taken (v : RWire.Value) : whole (taken v) = numVal v := by
  cases v <;> rfl
theorem takenAll_map : ∀ l : List RWire.Value, takenAll l = l.map taken
  | [] => rfl
  | v :: r => by rw [takenAll, takenAll_map r]; rfl
theorem taken_list (l : List RWire.Value) : taken (.list l) = .arr (l.map taken) := by rw [taken, takenAll_map]
theorem rangeIn_taken (x y : Nat) (v : RWire.Value) : rangeIn x y (taken v) = if isNum v x y then (numVal v).map Int.toNat else none := by
  unfold rangeIn rangeInt
  rw [whole_taken]
  cases v with
  | int i =>
    show Option.map Int.toNat (if (x : Int) ≤ i ∧ i ≤ (y : Int) then some i else none) = if (decide ((x : Int) ≤ i) && decide (i ≤ (y : Int))) = true then some i.toNat else none
    by_cases h : (x : Int) ≤ i ∧ i ≤ (y : Int)
    · rw [if_pos h, if_pos (by simp [h])]; rfl
    · rw [if_neg h, if_neg (by simpa using h)]; rfl
  | _ => rfl
theorem numberIn_taken (v : RWire.Value) : numberIn (taken v) = if isNum v 0 100 then (numVal v).map Int.toNat else none := rangeIn_taken 0 100 v
theorem keyIn_taken {n : Nat} (h1 : 1 ≤ n) (h4 : n ≤ 4) (v : RWire.Value) : keyIn n (taken v) = if isNum v 0 ((n : Int) - 1) then (numVal v).map Int.toNat else none := by
  unfold keyIn R7289g.Spec.when
  rw [rangeIn_taken]
  cases v with
  | int i =>
    show Option.bind (if (decide (((0 : Nat) : Int) ≤ i) && decide (i ≤ ((3 : Nat) : Int))) = true then some i.toNat else none) _ = if (decide ((0 : Int) ≤ i) && decide (i ≤ (n : Int) - 1)) = true then some i.toNat else none
    by_cases h : 0 ≤ i ∧ i ≤ (n : Int) - 1
    · have h' : (0 : Int) ≤ i ∧ i ≤ 3 := by omega
      rw [if_pos (by simpa using h'), if_pos (by simpa using h)]
      show (if decide (i.toNat < n) = true then some i.toNat else none) = some i.toNat
      rw [if_pos (decide_eq_true (by omega))]
    · rw [if_neg (c := (decide ((0 : Int) ≤ i) && decide (i ≤ (n : Int) - 1)) = true) (by simpa using h)]
      by_cases h3 : (0 : Int) ≤ i ∧ i ≤ 3
      · rw [if_pos (by simpa using h3)]
        show (if decide (i.toNat < n) = true then some i.toNat else none) = none
        rw [if_neg (by simp; omega)]
      · rw [if_neg (by simpa using h3)]
        rfl
  | _ => rfl
theorem isNum_val {v : RWire.Value} {lo hi : Int} (h : isNum v lo hi = true) : ∃ i, v = .int i ∧ lo ≤ i ∧ i ≤ hi := by
  cases v with
  | int i =>
    have h : (decide (lo ≤ i) && decide (i ≤ hi)) = true := h
    simp at h
    exact ⟨i, rfl, h⟩
  | _ => cases h
theorem isLst_val {v : RWire.Value} {lo hi : Int} (h : isLst v lo hi = true) : ∃ l, v = .list l ∧ lo ≤ (l.length : Int) ∧ (l.length : Int) ≤ hi := by
  cases v with
  | list l =>
    have h : (decide (lo ≤ (l.length : Int)) && decide ((l.length : Int) ≤ hi)) = true := h
    simp at h
    exact ⟨l, rfl, h⟩
  | _ => cases h
/-- values that may stand in the heap: no octets of the short form -/
def okv : RWire.Value → Bool
  | .octets _ => false
  | _ => true
/-- the members of a list of so many -/
def lstV (x y : Int) : RWire.Value → Option (List RWire.Value)
  | .list l => if isLst (.list l) x y then some l else none
  | _ => none
theorem listIn_taken {α : Type} (x y : Nat) (f : Plain → Option α) (v : RWire.Value) (h : okv v = true) : listIn x y f (taken v) = (lstV x y v).bind fun l => allSome f (l.map taken) := by
  cases v with
  | octets u => cases h
  | list l =>
    rw [taken_list]
    show (if x ≤ (l.map taken).length ∧ (l.map taken).length ≤ y then allSome f (l.map taken) else none) = (if (decide ((x : Int) ≤ (l.length : Int)) && decide ((l.length : Int) ≤ (y : Int))) = true then some l else none).bind _
    rw [List.length_map]
    by_cases q : x ≤ l.length ∧ l.length ≤ y
    · rw [if_pos q, if_pos (by simp; omega)]; rfl
    · rw [if_neg q, if_neg (by simp; omega)]; rfl
  | _ => rfl
def pairV (n : Nat) : RWire.Value → Option (Nat × Nat)
  | .list [x, y] => if isNum x 0 ((n : Int) - 1) && isNum y 0 100 then some (((numVal x).getD 0).toNat, ((numVal y).getD 0).toNat) else none
  | _ => none
theorem pairIn_taken {n : Nat} (h1 : 1 ≤ n) (h4 : n ≤ 4) (v : RWire.Value) (h : okv v = true) : pairIn n (taken v) = pairV n v := by
  cases v with
  | octets u => cases h
  | list l =>
    rw [taken_list]
    match l with
    | [] => rfl
    | [x] => rfl
    | [x, y] =>
      show (match keyIn n (taken x), numberIn (taken y) with
        | some k, some v => some (k, v)
        | _, _ => none) = if isNum x 0 ((n : Int) - 1) && isNum y 0 100 then some (((numVal x).getD 0).toNat, ((numVal y).getD 0).toNat) else none
      rw [keyIn_taken h1 h4, numberIn_taken]
      cases hx : isNum x 0 ((n : Int) - 1) with
      | false => rfl
      | true =>
        cases hy : isNum y 0 100 with
        | false =>
          obtain ⟨i, rfl, _⟩ := isNum_val hx
          rfl
        | true =>
          obtain ⟨i, rfl, _⟩ := isNum_val hx
          obtain ⟨j, rfl, _⟩ := isNum_val hy
          rfl
    | x :: y :: z :: r => rfl
  | _ => rfl
theorem allSome_snoc {α β : Type} (f : α → Option β) (x : α) : ∀ l : List α, allSome f (l ++ [x]) = (allSome f l).bind fun r => (f x).map fun a => r ++ [a]
  | [] => by
    show (f x).bind (fun a => (some []).map fun l => a :: l) = _
    cases f x <;> rfl
  | y :: l => by
    show (f y).bind (fun a => (allSome f (l ++ [x])).map fun l => a :: l) = _
    rw [allSome_snoc f x l]
    show _ = ((f y).bind (fun a => (allSome f l).map fun l => a :: l)).bind _
    cases f y with
    | none => rfl
    | some a =>
      cases allSome f l with
      | none => rfl
      | some r => cases f x <;> rfl
theorem allSome_len {α β : Type} {f : α → Option β} : ∀ {l : List α} {r : List β}, allSome f l = some r → r.length = l.length
  | [], r, h => by cases h; rfl
  | x :: l, r, h => by
    have h : (f x).bind (fun a => (allSome f l).map fun l => a :: l) = some r := h
    cases hf : f x with
    | none => rw [hf] at h; cases h
    | some a =>
      rw [hf] at h
      cases hl : allSome f l with
      | none => rw [hl] at h; cases h
      | some r' =>
        rw [hl] at h
        cases h
        simp [allSome_len hl]
/-- one that is none makes all none -/
theorem allSome_none {α β : Type} {f : α → Option β} : ∀ {l : List α} {x : α}, x ∈ l → f x = none → allSome f l = none
  | [], x, h, _ => by simp at h
  | y :: l, x, h, e => by
    show (f y).bind (fun a => (allSome f l).map fun l => a :: l) = none
    rcases List.mem_cons.mp h with q | q
    · rw [← q, e]; rfl
    · rw [allSome_none q e]
      cases f y <;> rfl
theorem dups_len : ∀ l : List Int, l.eraseDups.length ≤ l.length := fun l => by rw [← PySem.W.oss_dups]; exact PySem.W.oss_len l
theorem dups_all : ∀ (n : Nat) (l : List Nat), l.length = n → (((l.map fun (k : Nat) => (k : Int)).eraseDups.length = l.length) ↔ allDifferent l = true)
  | 0, l, h => by
    have := List.eq_nil_of_length_eq_zero h
    subst this
    simp [allDifferent]
  | n + 1, [], h => by simp at h
  | n + 1, k :: l, h => by
    have ih := dups_all n l (by simpa using h)
    show (((k : Int) :: l.map fun (k : Nat) => (k : Int)).eraseDups.length = l.length + 1) ↔ (!l.contains k && allDifferent l) = true
    rw [List.eraseDups_cons, List.length_cons]
    by_cases hk : k ∈ l
    · have hlt : ((l.map fun (k : Nat) => (k : Int)).filter fun b => !b == (k : Int)).length < l.length := by
        have h1 : ((l.map fun (k : Nat) => (k : Int)).filter fun b => !b == (k : Int)).length < (l.map fun (k : Nat) => (k : Int)).length := by
          apply List.length_filter_lt_length_iff_exists.mpr
          exact ⟨(k : Int), List.mem_map.mpr ⟨k, hk, rfl⟩, by simp⟩
        simpa using h1
      have h2 := dups_len ((l.map fun (k : Nat) => (k : Int)).filter fun b => !b == (k : Int))
      have h3 : l.contains k = true := by simpa using hk
      rw [h3]
      constructor
      · intro e; omega
      · intro e; cases e
    · have h3 : l.contains k = false := by simpa using hk
      have h4 : ((l.map fun (k : Nat) => (k : Int)).filter fun b => !b == (k : Int)) = l.map fun (k : Nat) => (k : Int) := by
        apply List.filter_eq_self.mpr
        intro b hb
        obtain ⟨j, hj, rfl⟩ := List.mem_map.mp hb
        have : (j : Int) ≠ (k : Int) := fun z => hk (by have := Int.ofNat.inj z; rw [← this]; exact hj)
        simpa using this
      rw [h3, h4]
      simp only [Bool.not_false, Bool.true_and]
      rw [← ih]
      omega
theorem distinct_all (l : List Nat) : decide ((distinct (l.map fun (k : Nat) => (k : Int)) : Int) = ((l.map fun (k : Nat) => (k : Int)).length : Int)) = allDifferent l := by
  have h := dups_all l.length l rfl
  have e : distinct (l.map fun (k : Nat) => (k : Int)) = (l.map fun (k : Nat) => (k : Int)).eraseDups.length := by
    unfold distinct
    rw [PySem.W.oss_met, PySem.W.oss_dups]
  rw [e]
  cases hd : allDifferent l with
  | true =>
    rw [decide_eq_true_eq]
    have := h.mpr hd
    rw [this, List.length_map]
  | false =>
    rw [decide_eq_false_iff_not]
    intro z
    rw [List.length_map] at z
    have := h.mp (by omega)
    rw [hd] at this
    cases this
def cN (l : List Nat) : List Int := l.map fun (k : Nat) => (k : Int)
end Zr
end
section
set_option maxRecDepth 100000
set_option maxHeartbeats 2000000
/-! Batches, entries, logs: the program's readers over values, equal to the specification's. Plain Lean. -/
namespace Zr
open PySem PySem.Spec PyProof.Rows
open R7289g.Spec (keyIn numberIn pairIn pairsIn batchIn recordIn entryIn listIn allSome allDifferent rangeIn rangeInt whole Plain)
open Rust (taken takenAll takenFields unitOf)
open Zp (oi)
def keyV (n : Nat) (v : RWire.Value) : Option Nat := if isNum v 0 ((n : Int) - 1) then (numVal v).map Int.toNat else none
def numV (v : RWire.Value) : Option Nat := if isNum v 0 100 then (numVal v).map Int.toNat else none
def pairsV (n least : Nat) (v : RWire.Value) : Option (List (Nat × Nat)) := ((lstV least 4 v).bind (allSome (pairV n))).bind fun l => if allDifferent (l.map fun e => e.1) then some l else none
def batchV (n : Nat) : RWire.Value → Option R7289g.Spec.Batch
  | .list [c, w] => (match pairsV n 0 c, pairsV n 1 w with
    | some c, some w => some ⟨c, w⟩
    | _, _ => none)
  | _ => none
def recV : RWire.Value → Option R7289g.Spec.Record
  | .list [x, y] => (match numV x, numV y with
    | some x, some y => some (x, y)
    | _, _ => none)
  | _ => none
def boolV : RWire.Value → Option Bool
  | .bool b => some b
  | _ => none
def sLost : Str := "lost"
def sAnswered : Str := "answered"
def sRead : Str := "read"
def entryV (n : Nat) : RWire.Value → Option R7289g.Spec.Entry
  | .list [x, b] => if isWord x sLost then (batchV n b).map .lost else none
  | .list [x, b, y] => if isWord x sRead then (match keyV n b, recV y with
      | some k, some r => some (.read k r)
      | _, _ => none) else if isWord x sAnswered then (match batchV n b, boolV y with
      | some b, some e => some (.answered b e)
      | _, _ => none) else none
  | _ => none
theorem okv_of {v : RWire.Value} (h : RWire.noOctets v = true) : okv v = true := by
  cases v with
  | octets u => simp [RWire.noOctets] at h
  | _ => rfl
theorem noOct_mem : ∀ {l : List RWire.Value}, RWire.noOctetsMany l = true → ∀ x ∈ l, RWire.noOctets x = true
  | [], _, x, h => by simp at h
  | v :: l, h, x, hx => by
    simp only [RWire.noOctetsMany, Bool.and_eq_true] at h
    rcases List.mem_cons.mp hx with q | q
    · rw [q]; exact h.1
    · exact noOct_mem h.2 x q
theorem allSome_map {α β γ : Type} (f : β → Option γ) (g : α → β) (h : α → Option γ) : ∀ l : List α, (∀ x ∈ l, f (g x) = h x) → allSome f (l.map g) = allSome h l
  | [], _ => rfl
  | x :: l, k => by
    show (f (g x)).bind (fun a => (allSome f (l.map g)).map fun l => a :: l) = (h x).bind fun a => (allSome h l).map fun l => a :: l
    rw [k x (by simp), allSome_map f g h l fun y hy => k y (by simp [hy])]
theorem pairsIn_taken {n : Nat} (h1 : 1 ≤ n) (h4 : n ≤ 4) (least : Nat) (v : RWire.Value) (h : RWire.noOctets v = true) : pairsIn n least (taken v) = pairsV n least v := by
  unfold pairsIn R7289g.Spec.when pairsV
  have e := listIn_taken least 4 (pairIn n) v (okv_of h)
  rw [e]
  congr 1
  cases v with
  | list l =>
    show (if isLst (.list l) least ((4 : Nat) : Int) = true then some l else none).bind _ = (if isLst (.list l) least 4 = true then some l else none).bind _
    by_cases q : isLst (.list l) least 4 = true
    · rw [if_pos (show isLst (.list l) least ((4 : Nat) : Int) = true from q), if_pos q]
      show allSome (pairIn n) (l.map taken) = allSome (pairV n) l
      exact allSome_map _ _ _ l fun x hx => pairIn_taken h1 h4 x (okv_of (noOct_mem h x hx))
    · rw [if_neg (show ¬ isLst (.list l) least ((4 : Nat) : Int) = true from q), if_neg q]
      rfl
  | _ => rfl
theorem batchIn_taken {n : Nat} (h1 : 1 ≤ n) (h4 : n ≤ 4) (v : RWire.Value) (h : RWire.noOctets v = true) : batchIn n (taken v) = batchV n v := by
  cases v with
  | octets u => simp [RWire.noOctets] at h
  | list l =>
    rw [taken_list]
    have hm := noOct_mem (l := l) h
    match l, hm with
    | [], _ => rfl
    | [x], _ => rfl
    | [x, y], hm =>
      show (match pairsIn n 0 (taken x), pairsIn n 1 (taken y) with
        | some c, some w => some (R7289g.Spec.Batch.mk c w)
        | _, _ => none) = _
      rw [pairsIn_taken h1 h4 0 x (hm x (by simp)), pairsIn_taken h1 h4 1 y (hm y (by simp))]
      rfl
    | x :: y :: z :: r, _ => rfl
  | _ => rfl
theorem recordIn_taken (v : RWire.Value) (h : RWire.noOctets v = true) : recordIn (taken v) = recV v := by
  cases v with
  | octets u => simp [RWire.noOctets] at h
  | list l =>
    rw [taken_list]
    match l with
    | [] => rfl
    | [x] => rfl
    | [x, y] =>
      show (match numberIn (taken x), numberIn (taken y) with
        | some v, some y => some (v, y)
        | _, _ => none) = _
      rw [numberIn_taken, numberIn_taken]
      rfl
    | x :: y :: z :: r => rfl
  | _ => rfl
theorem unit_inj {x y : UInt8} (h : unitOf x = unitOf y) : x = y := by
  have h1 := congrArg UInt16.toNat h
  have hx := UInt8.toNat_lt x
  have hy := UInt8.toNat_lt y
  simp only [unitOf, UInt16.toNat_ofNat'] at h1
  apply UInt8.toNat_inj.mp
  omega
theorem units_inj : ∀ {u w : List UInt8}, u.map unitOf = w.map unitOf → u = w
  | [], [], _ => rfl
  | [], _ :: _, h => by simp at h
  | _ :: _, [], h => by simp at h
  | x :: u, y :: w, h => by
    simp only [List.map_cons, List.cons.injEq] at h
    rw [unit_inj h.1, units_inj h.2]
theorem oi_inj : ∀ {u w : List UInt8}, oi u = oi w → u = w
  | [], [], _ => rfl
  | [], _ :: _, h => by simp [oi] at h
  | _ :: _, [], h => by simp [oi] at h
  | x :: u, y :: w, h => by
    simp only [oi, List.map_cons, List.cons.injEq] at h
    have h2 := oi_inj (u := u) (w := w) h.2
    rw [UInt8.toNat_inj.mp (Int.ofNat.inj h.1), h2]
theorem word_is (u l : List UInt8) (s : String) (z : Str) (h1 : R7289g.Spec.units s = l.map unitOf) (h2 : cI z = oi l) : (u.map unitOf = R7289g.Spec.units s) ↔ isWord (.text u) z = true := by
  rw [h1]
  show _ ↔ decide (oi u = cI z) = true
  rw [h2, decide_eq_true_eq]
  exact ⟨fun h => by rw [units_inj h], fun h => by rw [oi_inj h]⟩
def oLost : List UInt8 := [108, 111, 115, 116]
def oAnswered : List UInt8 := [97, 110, 115, 119, 101, 114, 101, 100]
def oRead : List UInt8 := [114, 101, 97, 100]
theorem cI_lost : cI sLost = oi oLost := by decide +kernel
theorem cI_answered : cI sAnswered = oi oAnswered := by decide +kernel
theorem cI_read : cI sRead = oi oRead := by decide +kernel
theorem un_lost : R7289g.Spec.units "lost" = oLost.map unitOf := by decide +kernel
theorem un_answered : R7289g.Spec.units "answered" = oAnswered.map unitOf := by decide +kernel
theorem un_read : R7289g.Spec.units "read" = oRead.map unitOf := by decide +kernel
theorem read_not_answered {u : List UInt8} (h : isWord (.text u) sRead = true) : isWord (.text u) sAnswered = false := by
  have h : decide (oi u = cI sRead) = true := h
  rw [decide_eq_true_eq, cI_read] at h
  show decide (oi u = cI sAnswered) = false
  rw [h, cI_answered]
  decide +kernel
theorem kin_oct {v : RWire.Value} (h : Zp.kin v = true) : RWire.noOctets v = true := by
  simp only [Zp.kin, Bool.and_eq_true] at h
  exact h.2.1
theorem kin_mem : ∀ {l : List RWire.Value}, Zp.kinAll l = true → ∀ x ∈ l, Zp.kin x = true
  | [], _, x, h => by simp at h
  | v :: l, h, x, hx => by
    obtain ⟨h1, h2⟩ := Zp.kinAll_cons.mp h
    rcases List.mem_cons.mp hx with q | q
    · rw [q]; exact h1
    · exact kin_mem h2 x q
theorem entryIn_taken {n : Nat} (h1 : 1 ≤ n) (h4 : n ≤ 4) (v : RWire.Value) (hk : Zp.kin v = true) : entryIn n (taken v) = entryV n v := by
  have h := kin_oct hk
  cases v with
  | octets u => simp [RWire.noOctets] at h
  | list l =>
    rw [taken_list]
    have hm := noOct_mem (l := l) h
    have hkm := kin_mem (l := l) hk
    match l, hm, hkm with
    | [], _, _ => rfl
    | [x], _, _ => cases x <;> rfl
    | [x, b], hm, hkm =>
      cases x with
      | text u =>
        show (if u.map unitOf = R7289g.Spec.units "lost" then (batchIn n (taken b)).map R7289g.Spec.Entry.lost else none) = if isWord (.text u) sLost = true then (batchV n b).map .lost else none
        rw [batchIn_taken h1 h4 b (hm b (by simp))]
        have w := word_is u oLost "lost" sLost un_lost cI_lost
        by_cases q : isWord (.text u) sLost = true
        · rw [if_pos q, if_pos (w.mpr q)]
        · rw [if_neg q, if_neg fun z => q (w.mp z)]
      | octets u => have := hm (.octets u) (by simp); simp [RWire.noOctets] at this
      | wide u => have := hkm (.wide u) (by simp); simp [Zp.kin, RWire.noWide] at this
      | _ => rfl
    | [x, b, y], hm, hkm =>
      cases x with
      | text u =>
        show (if u.map unitOf = R7289g.Spec.units "answered" then (match batchIn n (taken b), taken y with
          | some b, .bool e => some (.answered b e)
          | _, _ => none)
          else if u.map unitOf = R7289g.Spec.units "read" then (match keyIn n (taken b), recordIn (taken y) with
          | some k, some r => some (.read k r)
          | _, _ => none) else none) = if isWord (.text u) sRead = true then (match keyV n b, recV y with
          | some k, some r => some (R7289g.Spec.Entry.read k r)
          | _, _ => none) else if isWord (.text u) sAnswered = true then (match batchV n b, boolV y with
          | some b, some e => some (.answered b e)
          | _, _ => none) else none
        rw [batchIn_taken h1 h4 b (hm b (by simp)), recordIn_taken y (hm y (by simp)), keyIn_taken h1 h4]
        have wA := word_is u oAnswered "answered" sAnswered un_answered cI_answered
        have wR := word_is u oRead "read" sRead un_read cI_read
        by_cases qR : isWord (.text u) sRead = true
        · have qA := read_not_answered qR
          rw [if_neg (fun z => by rw [wA.mp z] at qA; cases qA), if_pos (wR.mpr qR), if_pos qR]
          rfl
        · rw [if_neg qR]
          by_cases qA : isWord (.text u) sAnswered = true
          · rw [if_pos (wA.mpr qA), if_pos qA]
            cases batchV n b with
            | none => rfl
            | some b =>
              have hy := okv_of (hm y (by simp))
              cases y with
              | octets u => cases hy
              | _ => rfl
          · rw [if_neg (fun z => qA (wA.mp z)), if_neg (fun z => qR (wR.mp z)), if_neg qA]
      | octets u => have := hm (.octets u) (by simp); simp [RWire.noOctets] at this
      | wide u => have := hkm (.wide u) (by simp); simp [Zp.kin, RWire.noWide] at this
      | _ => rfl
    | x :: y :: z :: w :: r, _, _ => cases x <;> rfl
  | _ => rfl
end Zr
end
section
set_option maxRecDepth 100000
set_option maxHeartbeats 2000000
/-! The defs of reading: pairs, batches. -/
namespace Zr
open PySem PySem.Spec PyProof.Rows L2 L2H
open Zp (oi)
open R7289g.Spec (allSome allDifferent)
section
variable {H H' : Hp}
/-- a record or a pair: a tuple of two numbers -/
abbrev RecAt (H : Hp) (t : Addr) (r : Nat × Nat) : Prop := H t = some (.tup [.int (r.1 : Int), .int (r.2 : Int)])
def PrsT (H : Hp) : List (Nat × Nat) → List Addr → Prop
  | [], ts => ts = []
  | e :: l, ts => ∃ t r, ts = t :: r ∧ RecAt H t e ∧ PrsT H l r
theorem PrsT.tup (ht : ∀ b xs, H b = some (.tup xs) → H' b = some (.tup xs)) : ∀ {l : List (Nat × Nat)} {ts : List Addr}, PrsT H l ts → PrsT H' l ts
  | [], _, h => h
  | e :: l, _, ⟨t, r, e1, h1, h2⟩ => ⟨t, r, e1, ht _ _ h1, PrsT.tup ht h2⟩
theorem PrsT.same (s : Same H H') {l : List (Nat × Nat)} {ts : List Addr} (h : PrsT H l ts) : PrsT H' l ts := h.tup fun _ _ e => s _ _ e
theorem PrsT.snoc {t : Addr} {e : Nat × Nat} (k : RecAt H t e) : ∀ {l : List (Nat × Nat)} {ts : List Addr}, PrsT H l ts → PrsT H (l ++ [e]) (ts ++ [t])
  | [], _, h => by subst h; exact ⟨t, [], rfl, k, rfl⟩
  | x :: l, _, ⟨q, r, e1, h1, h2⟩ => by subst e1; exact ⟨q, r ++ [t], rfl, h1, PrsT.snoc k h2⟩
theorem PrsT.len : ∀ {l : List (Nat × Nat)} {ts : List Addr}, PrsT H l ts → ts.length = l.length
  | [], _, h => by subst h; rfl
  | e :: l, _, ⟨t, r, e1, h1, h2⟩ => by subst e1; simp [PrsT.len h2]
theorem PrsT.get : ∀ {l : List (Nat × Nat)} {ts : List Addr} {i : Nat} {t : Addr}, PrsT H l ts → ts[i]? = some t → ∃ e, l[i]? = some e ∧ RecAt H t e
  | [], _, i, _, h, k => by subst h; simp at k
  | e :: l, _, 0, _, ⟨t, r, e1, h1, h2⟩, k => by subst e1; cases k; exact ⟨e, rfl, h1⟩
  | e :: l, _, i + 1, _, ⟨t, r, e1, h1, h2⟩, k => by
    subst e1
    obtain ⟨e', k1, k2⟩ := PrsT.get h2 (i := i) (by simpa using k)
    exact ⟨e', by simpa using k1, k2⟩
/-- a list of at most four pairs -/
def Prs (H : Hp) (p : Addr) (l : List (Nat × Nat)) : Prop := l.length ≤ 4 ∧ ∃ ts, H p = some (.lst (ts.map V.ref)) ∧ PrsT H l ts
theorem Prs.same (s : Same H H') {p : Addr} {l : List (Nat × Nat)} (h : Prs H p l) : Prs H' p l := ⟨h.1, let ⟨ts, h1, h2⟩ := h.2; ⟨ts, s _ _ h1, h2.same s⟩⟩
def BatAt (a : Adr) (H : Hp) (p : Addr) (b : R7289g.Spec.Batch) : Prop := ∃ c w, Ins H p a.batch (fBatch (.ref c) (.ref w)) ∧ Prs H c b.conditions ∧ Prs H w b.writes
theorem BatAt.same {a : Adr} (s : Same H H') {p : Addr} {b : R7289g.Spec.Batch} (h : BatAt a H p b) : BatAt a H' p b := let ⟨c, w, h1, h2, h3⟩ := h; ⟨c, w, Ins.same s h1, h2.same s, h3.same s⟩
/-- the object, if any; else None -/
def spOpt {α : Type} (o : Option α) (R : Hp → Addr → α → Prop) (G : Hp) : Hp → VK → Prop := fun H Q => (o = none → ∀ H', Same H H' → Q .non H') ∧ ∀ x, o = some x → ∀ G' H' q, Grow G H G' H' → H q = none → R G' q x → Q (.ref q) H'
end
theorem pat_int {a : Adr} {H : Hp} {i : Int} {p : Addr} (h : PAt a H (.int i) p) : Pc a H p 4 (.int i) := h
section
variable {P : Program} {w : World} {K : PySem.W.Frag} {mg : Str → Option Value} {base : Heap} {a : Adr}
def spPairs (a : Adr) : Sp := sp3 fun x y z H Q E => ∃ (p : Addr) (v : RWire.Value) (least n : Nat) (G : Hp), x = .ref p ∧ y = .int (least : Int) ∧ z = .int (n : Int) ∧ PAt a H v p ∧ Same G H ∧ spOpt (pairsV n least v) Prs G H Q
theorem c_pairs_of (T : Txt K mg a) : Cal P w K mg base 2 "pairs_of" (spPairs a) := by
  refine cal T.d_pairs_of sc_pairs_of len3 fun f cdv A outer s H vs Q E hr h => ?_
  obtain ⟨_, _, _, rfl, p, v, least, n, G, rfl, rfl, rfl, hp, sG, q⟩ := h
  refine ⟨_, (pss_cons (ps_if (pt_not (pt_val (pe_c (c_is_list T) hr (by decide) rfl (pa_cons (pv 0) (pa_cons (pv 1) (pa_cons pe_int pa_nil)))))) (pss_one (ps_ret pe_non)) pss_nil)
    (pss_cons (ps_set (i := 3) sc_pairs_of.nd rfl (Or.inl rfl) (pe_lst pa_nil))
    (pss_cons (ps_for PassesOwn.never rfl (pi_list (pe_f T.c_Piece.cl T.n_Piece_content (pv 0))) (pg_name (i := 4) sc_pairs_of.nd rfl (Or.inl rfl)) (pss_cons (ps_if (PW.pt (pw_or (pt_not (pt_val (pe_c (c_is_list T) hr (by decide) rfl (pa_cons (pv 4) (pa_cons pe_int (pa_cons pe_int pa_nil)))))) (pw_or1 (pt_not (pt_val (pe_c (c_is_number T) hr (by decide) rfl (pa_cons (pe_ix ix_list (pe_f T.c_Piece.cl T.n_Piece_content (pv 4)) pe_int (fun _ _ => rfl)) (pa_cons pe_int (pa_cons (pe_op op_sub (pv 2) pe_int) pa_nil))))))))) (pss_one (ps_ret pe_non)) pss_nil)
    (pss_cons (ps_if (pt_not (pt_val (pe_c (c_is_number T) hr (by decide) rfl (pa_cons (pe_ix ix_list (pe_f T.c_Piece.cl T.n_Piece_content (pv 4)) pe_int (fun _ _ => rfl)) (pa_cons pe_int (pa_cons (pe_gc rfl T.k_MOST_NUMBER) pa_nil)))))) (pss_one (ps_ret pe_non)) pss_nil)
    (pss_one (ps_expr (pe_bm PySem.F.plainAttrs_list PySem.F.slot_list_append PySem.F.type_list_append mt_append (pv 3) (pa_cons (pe_tup (pa_cons (pe_f T.c_Piece.cl T.n_Piece_content (pe_ix ix_list (pe_f T.c_Piece.cl T.n_Piece_content (pv 4)) pe_int (fun _ _ => rfl))) (pa_cons (pe_f T.c_Piece.cl T.n_Piece_content (pe_ix ix_list (pe_f T.c_Piece.cl T.n_Piece_content (pv 4)) pe_int (fun _ _ => rfl))) pa_nil))) pa_nil)))))))
    (pss_cons (ps_setLc (i := 5) (own := [("key", 6), ("number", 7)]) (g := (gTup K 2 (gCons (gName 6) (gCons (gName 7) gNil)))) (tt := tYes) rfl sc_pairs_of.nd rfl rfl (sw_true rfl rfl rfl (by decide +kernel)) (pi_list (pv 3)) (blkOk_by (N := ["piece", "low", "keys", "found", "own", "some", "key", "number"]) (sc := defScope s_pairs_of) (by decide +kernel)) (fun _ _ _ _ _ => (pg_tup rfl (pgs_cons (pg_name (i := 6) sc_pairs_of.nd rfl (Or.inl rfl)) (pgs_cons (pg_name (i := 7) sc_pairs_of.nd rfl (Or.inl rfl)) pgs_nil)))) (fun _ _ _ _ _ => pts_nil) (fun _ _ _ _ _ => (pv 6)))
    (pss_one (ps_ret (pe_ifExp (pt_cmpR op_eq (pe_lenSetD rfl T.b_len rfl T.b_set (pv 5)) (pe_callB call_len_seq rfl T.b_len (by decide +kernel) (pa_cons (pv 5) pa_nil)) (nomark _)) (pv 3) pe_non))))))), ?_⟩
  refine ⟨_, rfl, _, rfl, _, _, _, rfl, p, v, least, 4, rfl, rfl, rfl, hp, _, rfl, ?_⟩
  cases hL : isLst v least 4 with
  | false =>
    refine ifT rfl (q.1 ?_ H (Same.refl _))
    unfold pairsV lstV
    cases v with
    | list l => simp only [hL]; rfl
    | _ => rfl
  | true =>
    refine ifF rfl ⟨fit rfl, fun fo hfo => ?_⟩
    obtain ⟨l, rfl, hl1, hl2⟩ := isLst_val hL
    obtain ⟨l0, ps, ⟨dx, ek⟩, ho, hall⟩ := hp
    have hpl := pall_len hall
    have s0 := sm_upd (o := .lst []) hfo
    have hV : pairsV n least (.list l) = (allSome (pairV n) l).bind fun l => if allDifferent (l.map fun e => e.1) then some l else none := by
      unfold pairsV lstV
      simp only [hL]
      rfl
    rw [hV] at q
    refine ⟨_, rfl, p, dx, _, _, rfl, s0 _ _ ek, rfl, l0, rfl, ⟨_, SqL.of (s0 _ _ ho)⟩, for_list (xs := ps.map V.ref) (fun i σ HH => ∃ (acc : List (Nat × Nat)) (ts : List Addr) (vO : Option V) (G1 : Hp), σ = [some (.ref p), some (.int (least : Int)), some (.int (n : Int)), some (.ref fo), vO, none, none, none] ∧ Grow G H G1 HH ∧ G1 fo = none ∧ HH fo = some (.lst (ts.map V.ref)) ∧
      allSome (pairV n) (l.take i) = some acc ∧ PrsT G1 acc ts) ⟨[], [], none, G, rfl, (Grow.refl sG).poke hfo (sm_none sG hfo), sm_none sG hfo, upd_same, rfl, rfl⟩ ?_ ?_ ?_⟩
    · rintro i σ HH _ ⟨acc, ts, vO, G1, rfl, x1, g1, e1, e2, e3⟩
      exact SqL.of (x1.same _ _ ho)
    · rintro i x σ HH hx ⟨acc, ts, vO, G1, rfl, x1, g1, e1, e2, e3⟩
      have s1 := x1.same
      obtain ⟨q1, hq1, rfl⟩ : ∃ q1, ps[i]? = some q1 ∧ x = .ref q1 := by
        rw [List.getElem?_map] at hx
        cases e : ps[i]? with
        | none => rw [e] at hx; cases hx
        | some t => rw [e] at hx; cases hx; exact ⟨t, rfl, rfl⟩
      have hi : i < l.length := by rw [hpl]; exact (List.getElem?_eq_some_iff.mp hq1).1
      have hvi : l[i]? = some l[i] := List.getElem?_eq_getElem hi
      have hPi := pall_get hall hvi hq1
      have bad : pairV n l[i] = none → Q .non HH := fun hb => q.1 (by rw [allSome_none (List.mem_of_getElem? hvi) hb]; rfl) HH s1
      have hP2 := PAt.same s1 _ _ hPi
      have hfresh := hfo
      refine ⟨_, rfl, _, _, _, rfl, q1, l[i], 2, 2, rfl, rfl, rfl, hP2, _, rfl, ?_⟩
      cases hL2 : isLst l[i] 2 2 with
      | false =>
        refine ifT rfl (ifT rfl (bad ?_))
        cases hv : l[i] with
        | list m =>
          rw [hv] at hL2
          match m, hL2 with
          | [], _ => rfl
          | [x], _ => rfl
          | [x, y], h => simp [isLst] at h
          | _ :: _ :: _ :: _, _ => rfl
        | _ => rfl
      | true =>
        obtain ⟨m, hm, hm1, hm2⟩ := isLst_val hL2
        match m, hm, hm1, hm2 with
        | [x, y], hm, _, _ =>
          rw [hm] at hP2 bad
          obtain ⟨l1, ps1, ⟨dx1, ek1⟩, ho1, b1, r1, rfl, hx1, b2, r2, rfl, hy1, rfl⟩ := hP2
          refine ifF rfl ⟨_, rfl, q1, dx1, _, _, rfl, ek1, rfl, l1, _, _, _, rfl, rfl, SqL.of ho1, rfl, _, rfl, _, _, rfl, rfl, _, _, _, rfl, b1, x, 0, (n : Int) - 1, rfl, rfl, rfl, hx1, _, rfl, ?_⟩
          cases hN1 : isNum x 0 ((n : Int) - 1) with
          | false => exact ifT rfl (bad (by show (if (isNum x 0 ((n : Int) - 1) && _) = true then _ else _) = none; rw [hN1]; rfl))
          | true =>
            refine ifF rfl ⟨_, rfl, q1, dx1, _, _, rfl, ek1, rfl, l1, _, _, _, rfl, rfl, SqL.of ho1, rfl, _, _, _, rfl, b2, y, 0, 100, rfl, rfl, rfl, hy1, _, rfl, ?_⟩
            cases hN2 : isNum y 0 100 with
            | false => exact ifT rfl (bad (by show (if (isNum x 0 ((n : Int) - 1) && isNum y 0 100) = true then _ else _) = none; rw [hN1, hN2]; rfl))
            | true =>
              obtain ⟨i1, rfl, hi1, _⟩ := isNum_val hN1
              obtain ⟨i2, rfl, hi2, _⟩ := isNum_val hN2
              obtain ⟨i1, rfl⟩ := Int.eq_ofNat_of_zero_le hi1
              obtain ⟨i2, rfl⟩ := Int.eq_ofNat_of_zero_le hi2
              obtain ⟨d1, f1⟩ := pat_int hx1
              obtain ⟨d2, f2⟩ := pat_int hy1
              refine ifF rfl ⟨_, rfl, .inl ⟨rfl, _, SqL.of e1⟩, _, rfl, q1, dx1, _, _, rfl, ek1, rfl, l1, _, _, _, rfl, rfl, SqL.of ho1, rfl, b1, d1, _, _, rfl, f1, rfl, _, rfl, q1, dx1, _, _, rfl, ek1, rfl, l1, _, _, _, rfl, rfl, SqL.of ho1, rfl, b2, d2, _, _, rfl, f2, rfl, fit rfl, fun t ht => ⟨fo, _, _, rfl, rfl, sm_upd ht _ _ e1, ?_, ?_⟩⟩
              · have := e3.len
                have h5 := allSome_len e2
                rw [List.length_map, this, h5, List.length_take, sizeLine_eq]
                omega
              · have nft : fo ≠ t := ne_of_none e1 ht
                have gt := sm_none x1.sub ht
                have x2 := ((x1.loose (sm_upd (o := .tup [.int (i1 : Int), .int (i2 : Int)]) ht)).keep upd_same (sm_none s1 ht) gt).poke (b := fo) (o := .lst (ts.map V.ref ++ [.ref t])) hfo (by rw [upd_ne nft]; exact g1)
                refine ⟨acc ++ [(i1, i2)], ts ++ [t], _, _, rfl, x2, by rw [upd_ne nft]; exact g1, by rw [upd_same, List.map_append]; rfl, ?_, PrsT.snoc (e := (i1, i2)) upd_same (e3.same (sm_upd gt))⟩
                · have e5 : l.take (i + 1) = l.take i ++ [l[i]] := by rw [List.take_succ, hvi]; rfl
                  rw [e5, allSome_snoc, e2, hm]
                  show (pairV n (.list [.int (i1 : Int), .int (i2 : Int)])).map _ = _
                  have e6 : pairV n (.list [.int (i1 : Int), .int (i2 : Int)]) = some (i1, i2) := by
                    show (if (isNum (.int (i1 : Int)) 0 ((n : Int) - 1) && isNum (.int (i2 : Int)) 0 100) = true then _ else _) = _
                    rw [hN1, hN2]
                    rfl
                  rw [e6]
                  rfl
    · rintro σ HH ⟨acc, ts, vO, G1, rfl, x1, g1, e1, e2, e3⟩
      have s1 := x1.same
      rw [List.length_map, ← hpl, List.take_length] at e2
      rw [e2] at q
      have hal := allSome_len e2
      have htl := e3.len
      refine ⟨_, rfl, fo, rfl, ⟨_, SqL.of e1⟩, fun D hD => lc_l (xs := ts.map V.ref) (G0 := G1) (fun _ => true) (fun i y _ => y = .int (((acc.getD i (0, 0)).1 : Nat) : Int)) (SqL.of e1) hD x1.sub (by simp; omega) (fun i y G G' _ h => h) ?_ ?_⟩
      · intro i x G H1 hx gr Yes No k _
        obtain ⟨t, ht, rfl⟩ : ∃ t, ts[i]? = some t ∧ x = .ref t := by
          rw [List.getElem?_map] at hx
          cases e : ts[i]? with
          | none => rw [e] at hx; cases hx
          | some t => rw [e] at hx; cases hx; exact ⟨t, rfl, rfl⟩
        obtain ⟨e, h1, h2⟩ := e3.get ht
        refine ⟨t, _, rfl, SqT.of (gr.sub _ _ (gr.up _ _ h2)), rfl, _, _, rfl, _, _, rfl, rfl, rfl, _, rfl, k rfl _ G H1 (Grow.refl gr.sub) ?_⟩
        rw [List.getD_eq_getElem?_getD, h1]
        rfl
      · intro G2 H2 ys L
        have e5 : ys = (cN (acc.map fun e => e.1)).map V.int := by
          rw [L.vals, List.length_map, htl]
          apply List.ext_getElem?
          intro j
          unfold cN
          rw [List.map_map, List.map_map, List.getElem?_map, List.getElem?_map]
          by_cases hj : j < acc.length
          · rw [List.getElem?_range hj, List.getElem?_eq_getElem hj]
            simp [List.getD_eq_getElem?_getD, List.getElem?_eq_getElem hj]
          · rw [List.getElem?_eq_none (by simp; omega), List.getElem?_eq_none (by omega)]
            rfl
        have hD2 := L.at_
        rw [e5] at hD2
        have hdis := distinct_all (acc.map fun e => e.1)
        refine ⟨_, rfl, D, _, rfl, SqL.of hD2, by simp [cN]; omega, _, rfl, D, _, rfl, .inl (SqL.of hD2), rfl, _, rfl, ?_⟩
        rw [List.length_map]
        show if decide (V.int _ = V.int _) = true then _ else _
        rw [decI]
        show if decide ((distinct (cN (acc.map fun e => e.1)) : Int) = ((cN (acc.map fun e => e.1)).length : Int)) = true then _ else _
        have hdis' : decide ((distinct (cN (acc.map fun e => e.1)) : Int) = ((cN (acc.map fun e => e.1)).length : Int)) = allDifferent (acc.map fun e => e.1) := hdis
        rw [hdis']
        have s2 := s1.trans L.gr.same
        cases hd : allDifferent (acc.map fun e => e.1) with
        | true =>
          refine ifT rfl ⟨_, rfl, q.2 acc (by show (if allDifferent (acc.map fun e => e.1) = true then some acc else none) = some acc; rw [hd]; rfl) (upd G2 fo (.lst (ts.map V.ref))) H2 fo ?_ hfo ⟨by omega, ts, upd_same, ?_⟩⟩
          · exact (x1.trans L.gr).keep (L.gr.same _ _ e1) hfo (L.gr.new fo g1 (by rw [e1]; simp))
          · exact (e3.same L.gr.up).same (sm_upd (L.gr.new fo g1 (by rw [e1]; simp)))
        | false => exact ifF rfl (q.1 (by show (if allDifferent (acc.map fun e => e.1) = true then some acc else none) = none; rw [hd]; rfl) H2 s2)
end
end Zr
end
section
set_option maxRecDepth 100000
set_option maxHeartbeats 2000000
/-! The defs of reading: batches, entries. -/
namespace Zr
open PySem PySem.Spec PyProof.Rows L2 L2H
open Zp (oi)
open R7289g.Spec (allSome allDifferent)
section
variable {P : Program} {w : World} {K : PySem.W.Frag} {mg : Str → Option Value} {base : Heap} {a : Adr}
def spBatch (a : Adr) : Sp := sp2 fun x y H Q E => ∃ (p : Addr) (v : RWire.Value) (n : Nat) (G : Hp), x = .ref p ∧ y = .int (n : Int) ∧ PAt a H v p ∧ Same G H ∧ spOpt (batchV n v) (BatAt a) G H Q
theorem batchV_lst {n : Nat} {v : RWire.Value} (h : isLst v 2 2 = false) : batchV n v = none := by
  cases v with
  | list m =>
    match m, h with
    | [], _ => rfl
    | [x], _ => rfl
    | [x, y], h => simp [isLst] at h
    | _ :: _ :: _ :: _, _ => rfl
  | _ => rfl
theorem c_batch_of (T : Txt K mg a) : Cal P w K mg base 3 "batch_of" (spBatch a) := by
  refine cal T.d_batch_of sc_batch_of len2 fun f cdv A outer s H vs Q E hr h => ?_
  obtain ⟨_, _, rfl, p, v, n, G, rfl, rfl, hp, sG, q⟩ := h
  refine ⟨_, (pss_cons (ps_if (pt_not (pt_val (pe_c (c_is_list T) hr (by decide) rfl (pa_cons (pv 0) (pa_cons pe_int (pa_cons pe_int pa_nil)))))) (pss_one (ps_ret pe_non)) pss_nil)
    (pss_cons (ps_set (i := 2) sc_batch_of.nd rfl (Or.inl rfl) (pe_c (c_pairs_of T) hr (by decide) rfl (pa_cons (pe_ix ix_list (pe_f T.c_Piece.cl T.n_Piece_content (pv 0)) pe_int (fun _ _ => rfl)) (pa_cons pe_int (pa_cons (pv 1) pa_nil)))))
    (pss_cons (ps_set (i := 3) sc_batch_of.nd rfl (Or.inl rfl) (pe_c (c_pairs_of T) hr (by decide) rfl (pa_cons (pe_ix ix_list (pe_f T.c_Piece.cl T.n_Piece_content (pv 0)) pe_int (fun _ _ => rfl)) (pa_cons pe_int (pa_cons (pv 1) pa_nil)))))
    (pss_cons (ps_if (PW.pt (pw_or (pt_cmpR op_isN (pv 2) pe_non (nomark _)) (pw_or1 (pt_cmpR op_isN (pv 3) pe_non (nomark _))))) (pss_one (ps_ret pe_non)) pss_nil)
    (pss_one (ps_ret (pe_mk (m_Batch T) hr (by decide) rfl (pa_cons (pv 2) (pa_cons (pv 3) pa_nil))))))))), ?_⟩
  refine ⟨_, rfl, _, _, _, rfl, p, v, 2, 2, rfl, rfl, rfl, hp, _, rfl, ?_⟩
  cases hL : isLst v 2 2 with
  | false => exact ifT rfl (q.1 (batchV_lst hL) H (Same.refl _))
  | true =>
    obtain ⟨m, rfl, hm1, hm2⟩ := isLst_val hL
    match m, hm1, hm2 with
    | [c, ww], _, _ =>
      obtain ⟨l0, ps, ⟨dx, ek⟩, ho, b1, r1, rfl, hc, b2, r2, rfl, hw, rfl⟩ := hp
      refine ifF rfl ⟨_, rfl, p, dx, _, _, rfl, ek, rfl, l0, _, _, _, rfl, rfl, SqL.of ho, rfl, _, rfl, _, _, _, rfl, b1, c, 0, n, G, rfl, rfl, rfl, hc, sG, fun h1 H1 s1 => ?_, fun l1 h1 G1 H1 q1 x1 n1 r1 => ?_⟩
      · have bad : batchV n (.list [c, ww]) = none := by
          show (match pairsV n 0 c, pairsV n 1 ww with
            | some c, some w => some (R7289g.Spec.Batch.mk c w)
            | _, _ => none) = none
          rw [h1]
        refine ⟨_, rfl, p, dx, _, _, rfl, s1 _ _ ek, rfl, l0, _, _, _, rfl, rfl, SqL.of (s1 _ _ ho), rfl, _, rfl, _, _, _, rfl, b2, ww, 1, n, G, rfl, rfl, rfl, PAt.same s1 _ _ hw, sG.trans s1, fun h2 H2 s2 => ?_, fun l2 h2 G2 H2 q2 x2 n2 r2 => ?_⟩
        · exact ⟨_, rfl, rfl, _, rfl, ifT rfl (ifT rfl (q.1 bad H2 (s1.trans s2)))⟩
        · exact ⟨_, rfl, rfl, _, rfl, ifT rfl (ifT rfl (q.1 bad H2 (s1.trans x2.same)))⟩
      · have s1 := x1.same
        refine ⟨_, rfl, p, dx, _, _, rfl, s1 _ _ ek, rfl, l0, _, _, _, rfl, rfl, SqL.of (s1 _ _ ho), rfl, _, rfl, _, _, _, rfl, b2, ww, 1, n, G1, rfl, rfl, rfl, PAt.same s1 _ _ hw, x1.sub, fun h2 H2 s2 => ?_, fun l2 h2 G2 H2 q2 x2 n2 r2 => ?_⟩
        · have bad : batchV n (.list [c, ww]) = none := by
            show (match pairsV n 0 c, pairsV n 1 ww with
              | some c, some w => some (R7289g.Spec.Batch.mk c w)
              | _, _ => none) = none
            rw [h1, h2]
          exact ⟨_, rfl, rfl, _, rfl, ifF rfl ⟨_, rfl, rfl, _, rfl, ifT rfl (q.1 bad H2 (s1.trans s2))⟩⟩
        · refine ⟨_, rfl, rfl, _, rfl, ifF rfl ⟨_, rfl, rfl, _, rfl, ifF rfl ⟨_, rfl, _, rfl, made rfl fun H3 p3 n3 s3 hi => ?_⟩⟩⟩
          obtain ⟨dx3, e3⟩ := hi
          have x := x1.trans x2
          have g3 := sm_none x.sub n3
          refine q.2 ⟨l1, l2⟩ ?_ _ H3 p3 ((x.loose s3).keep e3 (sm_none x.same n3) g3) (sm_none x.same n3) ⟨q1, q2, ⟨dx3, upd_same⟩, (r1.same x2.up).same (sm_upd g3), r2.same (sm_upd g3)⟩
          show (match pairsV n 0 c, pairsV n 1 ww with
            | some c, some w => some (R7289g.Spec.Batch.mk c w)
            | _, _ => none) = some ⟨l1, l2⟩
          rw [h1, h2]
def mBatch : Str := "batch must be [conditions, writes]"
/-- the object; else a refusal -/
def spRz {α : Type} (a : Adr) (k : Int) (m : Str) (o : Option α) (R : Hp → Addr → α → Prop) (G : Hp) : Hp → VK → XK → Prop := fun H Q E => (o = none → ∀ H', Same H H' → ERef a k m H' E) ∧ ∀ x, o = some x → ∀ G' H' q, Grow G H G' H' → H q = none → R G' q x → Q (.ref q) H'
def spNeedBatch (a : Adr) : Sp := sp2 fun x y H Q E => ∃ (p : Addr) (v : RWire.Value) (n : Nat) (G : Hp), x = .ref p ∧ y = .int (n : Int) ∧ PAt a H v p ∧ Same G H ∧ spRz a 1 mBatch (batchV n v) (BatAt a) G H Q E
theorem c_need_batch (T : Txt K mg a) : CalX P w K mg base 4 "need_batch" (spNeedBatch a) := by
  refine calX T.d_need_batch sc_need_batch len2 fun f cdv A outer s H vs Q E hr h => ?_
  obtain ⟨_, _, rfl, p, v, n, G, rfl, rfl, hp, sG, q⟩ := h
  refine ⟨_, (pss_cons (ps_set (i := 2) sc_need_batch.nd rfl (Or.inl rfl) (pe_c (c_batch_of T) hr (by decide) rfl (pa_cons (pv 0) (pa_cons (pv 1) pa_nil))))
    (pss_cons (ps_expr (pe_cx (c_need T) hr (by decide) (L2N.takes_of rfl rfl rfl rfl) rfl (pa_cons (pe_cmpR op_notN (pv 2) pe_non (nomark _)) (pa_cons pe_str pa_nil))))
    (pss_one (ps_ret (pv 2))))), ?_⟩
  refine ⟨_, rfl, _, rfl, _, _, rfl, p, v, n, G, rfl, rfl, hp, sG, fun h1 H1 s1 => ?_, fun b h1 G1 H1 q1 x1 n1 r1 => ?_⟩
  · exact ⟨_, rfl, rfl, _, _, rfl, false, mBatch, rfl, rfl, (fun z => nomatch z), fun _ => q.1 h1 H1 s1⟩
  · exact ⟨_, rfl, rfl, _, _, rfl, true, mBatch, rfl, rfl, (fun _ => ⟨_, rfl, q.2 b h1 G1 H1 q1 x1 n1 r1⟩), fun z => nomatch z⟩
/-! ### entries -/
def EntAt (a : Adr) (H : Hp) (p : Addr) : R7289g.Spec.Entry → Prop
  | .lost b => ∃ q t, Ins H p a.entry (fEntry (.str sLost) (.ref q) (.bl false) (.int 0) (.ref t)) ∧ BatAt a H q b
  | .answered b e => ∃ q t, Ins H p a.entry (fEntry (.str sAnswered) (.ref q) (.bl e) (.int 0) (.ref t)) ∧ BatAt a H q b
  | .read k r => ∃ t, Ins H p a.entry (fEntry (.str sRead) .non (.bl false) (.int (k : Int)) (.ref t)) ∧ RecAt H t r
theorem EntAt.same {H H' : Hp} (s : Same H H') {p : Addr} : ∀ {e : R7289g.Spec.Entry}, EntAt a H p e → EntAt a H' p e
  | .lost b, ⟨q, t, h1, h2⟩ => ⟨q, t, Ins.same s h1, h2.same s⟩
  | .answered b e, ⟨q, t, h1, h2⟩ => ⟨q, t, Ins.same s h1, h2.same s⟩
  | .read k r, ⟨t, h1, h2⟩ => ⟨t, Ins.same s h1, s _ _ h2⟩
theorem madeE {H3 : Hp} {y z : V} {x dx : Addr} {R : Hp → Prop} {E : XK} (hx : H3 x = none) (hd : H3 dx = none) (h : ∀ H4 t, Same H3 H4 → H3 t = none → t ≠ x → Ins H4 x a.entry (fEntry y z (.bl false) (.int 0) (.ref t)) → R H4) :
    spEntry a [.ref x, y, z] (upd (upd H3 dx (.own x)) x (.ins a.entry dx [])) (fun v H2 => v = .non ∧ R H2) E := by
  refine ⟨_, _, _, rfl, x, dx, rfl, upd_same, fun H4 t kp ht _ hi => ⟨rfl, h H4 t (fun b o e => ?_) (upd_none (upd_none ht).2).2 (upd_none ht).1 hi⟩⟩
  have n1 : b ≠ x := ne_of_none e hx
  have n2 : b ≠ dx := ne_of_none e hd
  refine kp b o n1 ?_
  rw [upd_ne n1, upd_ne n2]
  exact e
def readV (n : Nat) (b y : RWire.Value) : Option R7289g.Spec.Entry := match keyV n b, recV y with
  | some k, some r => some (.read k r)
  | _, _ => none
def spReadEntry (a : Adr) : Sp := sp2 fun x y H Q E => ∃ (l0 a0 a1 a2 : Addr) (b yv : RWire.Value) (n : Nat) (G : Hp), x = .ref l0 ∧ y = .int (n : Int) ∧ H l0 = some (.lst [.ref a0, .ref a1, .ref a2]) ∧ PAt a H b a1 ∧ PAt a H yv a2 ∧ Same G H ∧ spOpt (readV n b yv) (EntAt a) G H Q
theorem c_read_entry (T : Txt K mg a) : Cal P w K mg base 3 "read_entry" (spReadEntry a) := by
  refine cal T.d_read_entry sc_read_entry len2 fun f cdv A outer s H vs Q E hr h => ?_
  obtain ⟨_, _, rfl, l0, a0, a1, a2, b, yv, n, G, rfl, rfl, hl, hb, hy, sG, q⟩ := h
  refine ⟨_, (pss_cons (ps_if (PW.pt (pw_or (pt_not (pt_val (pe_c (c_is_number T) hr (by decide) rfl (pa_cons (pe_ix ix_list (pv 0) pe_int (fun _ _ => rfl)) (pa_cons pe_int (pa_cons (pe_op op_sub (pv 1) pe_int) pa_nil)))))) (pw_or1 (pt_not (pt_val (pe_c (c_is_list T) hr (by decide) rfl (pa_cons (pe_ix ix_list (pv 0) pe_int (fun _ _ => rfl)) (pa_cons pe_int (pa_cons pe_int pa_nil))))))))) (pss_one (ps_ret pe_non)) pss_nil)
    (pss_cons (ps_if (pt_not (pt_val (pe_callB (cr_all rfl) rfl T.b_all (by decide +kernel) (pa_cons (pe_lc (own := [("own", 3)]) (g := (gName 3)) (tt := tYes) rfl sc_read_entry.nd (pi_list (pe_f T.c_Piece.cl T.n_Piece_content (pe_ix ix_list (pv 0) pe_int (fun _ _ => rfl)))) (blkOk_by (N := ["parts", "keys", "found", "own"]) (sc := defScope s_read_entry) (by decide +kernel)) (fun _ _ _ _ _ => (pg_name (i := 3) sc_read_entry.nd rfl (Or.inl rfl))) (fun _ _ _ _ _ => pts_nil) (fun _ _ _ _ _ => (pe_c (c_is_number T) hr (by decide) rfl (pa_cons (pv 3) (pa_cons pe_int (pa_cons (pe_gc rfl T.k_MOST_NUMBER) pa_nil)))))) pa_nil)))) (pss_one (ps_ret pe_non)) pss_nil)
    (pss_cons (ps_set (i := 2) sc_read_entry.nd rfl (Or.inl rfl) (pe_mk (m_Entry T) hr (by decide) rfl (pa_cons (pe_gc rfl T.k_READ) (pa_cons pe_non pa_nil))))
    (pss_cons (ps_f T.c_Entry.cl T.n_Entry_key (pv 2) (pe_f T.c_Piece.cl T.n_Piece_content (pe_ix ix_list (pv 0) pe_int (fun _ _ => rfl))))
    (pss_cons (ps_f T.c_Entry.cl T.n_Entry_record (pv 2) (pe_callTy call_tuple_of rfl T.b_tuple (by decide +kernel) (pa_cons (pe_lc (own := [("own", 3)]) (g := (gName 3)) (tt := tYes) rfl sc_read_entry.nd (pi_list (pe_f T.c_Piece.cl T.n_Piece_content (pe_ix ix_list (pv 0) pe_int (fun _ _ => rfl)))) (blkOk_by (N := ["parts", "keys", "found", "own"]) (sc := defScope s_read_entry) (by decide +kernel)) (fun _ _ _ _ _ => (pg_name (i := 3) sc_read_entry.nd rfl (Or.inl rfl))) (fun _ _ _ _ _ => pts_nil) (fun _ _ _ _ _ => (pe_f T.c_Piece.cl T.n_Piece_content (pv 3)))) pa_nil)))
    (pss_one (ps_ret (pv 2)))))))), ?_⟩
  refine ⟨_, rfl, l0, _, _, _, rfl, rfl, SqL.of hl, rfl, _, rfl, _, _, rfl, rfl, _, _, _, rfl, a1, b, 0, (n : Int) - 1, rfl, rfl, rfl, hb, _, rfl, ?_⟩
  cases hN : isNum b 0 ((n : Int) - 1) with
  | false =>
    refine ifT rfl (ifT rfl (q.1 ?_ H (Same.refl _)))
    unfold readV keyV
    rw [hN]
    rfl
  | true =>
    obtain ⟨i, rfl, hi1, hi2⟩ := isNum_val hN
    obtain ⟨k, rfl⟩ := Int.eq_ofNat_of_zero_le hi1
    have hkey : keyV n (.int (k : Int)) = some k := by
      unfold keyV
      rw [hN]
      rfl
    refine ifF rfl ⟨_, rfl, l0, _, _, _, rfl, rfl, SqL.of hl, rfl, _, _, _, rfl, a2, yv, 2, 2, rfl, rfl, rfl, hy, _, rfl, ?_⟩
    have rn : recV yv = none → readV n (.int (k : Int)) yv = none := fun h => by
      unfold readV
      rw [h, hkey]
    cases hL : isLst yv 2 2 with
    | false =>
      refine ifT rfl (q.1 (rn ?_) H (Same.refl _))
      cases yv with
      | list m =>
        match m, hL with
        | [], _ => rfl
        | [x], _ => rfl
        | [x, y], h => simp [isLst] at h
        | _ :: _ :: _ :: _, _ => rfl
      | _ => rfl
    | true =>
      obtain ⟨m, rfl, hm1, hm2⟩ := isLst_val hL
      match m, hm1, hm2 with
      | [c, ww], _, _ =>
        obtain ⟨l1, ps, ⟨dx, ek⟩, ho, b1, r1, rfl, hc, b2, r2, rfl, hw, rfl⟩ := hy
        refine ifF rfl ?_
        refine ⟨_, rfl, l0, _, _, _, rfl, rfl, SqL.of hl, rfl, a2, dx, _, _, rfl, ek, rfl, l1, rfl, ⟨_, SqL.of ho⟩, fun D hD => lc_l (xs := [b1, b2].map V.ref) (G0 := H) (fun _ => true) (fun i y _ => y = .bl ([isNum c 0 100, isNum ww 0 100].getD i false)) (SqL.of ho) hD (Same.refl _) (by show 2 ≤ 16000000; decide) (fun i y G G' _ h => h) ?_ ?_⟩
        · intro i x G1 H1 hx gr Yes No kk _
          match i, hx with
          | 0, hx =>
            cases hx
            exact ⟨rfl, _, rfl, _, _, _, rfl, b1, c, 0, 100, rfl, rfl, rfl, PAt.same gr.same _ _ hc, kk rfl _ G1 H1 (Grow.refl gr.sub) rfl⟩
          | 1, hx =>
            cases hx
            exact ⟨rfl, _, rfl, _, _, _, rfl, b2, ww, 0, 100, rfl, rfl, rfl, PAt.same gr.same _ _ hw, kk rfl _ G1 H1 (Grow.refl gr.sub) rfl⟩
        · intro G1 H1 ys L
          have hys := L.vals
          have s1 := L.gr.same
          have hys' : ys = [isNum c 0 100, isNum ww 0 100].map V.bl := by rw [hys]; rfl
          have hD1 := L.at_
          rw [hys'] at hD1
          refine ⟨D, _, rfl, SqL.of hD1, _, rfl, ?_⟩
          by_cases hall : isNum c 0 100 = true ∧ isNum ww 0 100 = true
          · obtain ⟨j1, rfl, hj1, _⟩ := isNum_val hall.1
            obtain ⟨j2, rfl, hj2, _⟩ := isNum_val hall.2
            obtain ⟨j1, rfl⟩ := Int.eq_ofNat_of_zero_le hj1
            obtain ⟨j2, rfl⟩ := Int.eq_ofNat_of_zero_le hj2
            have hrd : readV n (.int (k : Int)) (.list [.int (j1 : Int), .int (j2 : Int)]) = some (.read k (j1, j2)) := by
              have e1 : recV (.list [.int (j1 : Int), .int (j2 : Int)]) = some (j1, j2) := by
                show (match numV (.int (j1 : Int)), numV (.int (j2 : Int)) with
                  | some x, some y => some (x, y)
                  | _, _ => none) = _
                unfold numV
                rw [hall.1, hall.2]
                rfl
              unfold readV
              rw [hkey, e1]
            refine ifF (by rw [hall.1, hall.2]; rfl) ?_
            intro p dp np nd ne
            refine madeE np nd fun H2 t0 s2 nt0 _ hi => ?_
            obtain ⟨dxp, hp2⟩ := hi
            obtain ⟨dxb, eb⟩ := pat_int hb
            have s12 := s1.trans s2
            refine ⟨_, rfl, l0, _, _, _, rfl, rfl, SqL.of (s12 _ _ hl), rfl, a1, dxb, _, _, rfl, s12 _ _ eb, rfl, _, rfl, p, dxp, _, rfl, hp2, rfl, ?_⟩
            have hpH : H p = none := sm_none s1 np
            have s3 : ∀ {b : Addr} {o o' : HO}, H b = some o → upd H2 p o' b = some o := fun {b o o'} e => by
              rw [upd_ne (ne_of_none e hpH)]
              exact s12 _ _ e
            refine ⟨_, rfl, l0, _, _, _, rfl, rfl, SqL.of (s3 hl), rfl, a2, dx, _, _, rfl, s3 ek, rfl, l1, rfl, ⟨_, SqL.of (s3 ho)⟩, fun D2 hD2 => lc_l (xs := [b1, b2].map V.ref) (G0 := G) (fun _ => true) (fun i y _ => y = .int ([(j1 : Int), (j2 : Int)].getD i 0)) (SqL.of (s3 ho)) hD2 (fun b o e => s3 (sG b o e)) (by show 2 ≤ 16000000; decide) (fun i y G G' _ h => h) ?_ ?_⟩
            · intro i x G1 H1 hx gr Yes No kk _
              match i, hx with
              | 0, hx =>
                cases hx
                obtain ⟨d1, f1⟩ := pat_int hc
                exact ⟨rfl, _, rfl, b1, d1, _, _, rfl, gr.same _ _ (s3 f1), rfl, kk rfl _ G1 H1 (Grow.refl gr.sub) rfl⟩
              | 1, hx =>
                cases hx
                obtain ⟨d1, f1⟩ := pat_int hw
                exact ⟨rfl, _, rfl, b2, d1, _, _, rfl, gr.same _ _ (s3 f1), rfl, kk rfl _ G1 H1 (Grow.refl gr.sub) rfl⟩
            · intro G5 H5 ys2 L2
              have hys2 : ys2 = [.int (j1 : Int), .int (j2 : Int)] := L2.vals
              have e5 := L2.at_
              rw [hys2] at e5
              have p5 := L2.gr.same _ _ (show upd H2 p (.ins a.entry dxp (fEntry (.str sRead) .non (.bl false) (.int (k : Int)) (.ref t0))) p = _ from upd_same)
              refine ⟨D2, _, rfl, .inl ⟨SqL.of e5, fun t2 ht2 => ⟨_, rfl, p, dxp, fEntry (.str sRead) .non (.bl false) (.int (k : Int)) (.ref t0), rfl, sm_upd ht2 _ _ p5, rfl, _, rfl, ?_⟩⟩⟩
              have npt : p ≠ t2 := ne_of_none p5 ht2
              have sE : ∀ o', Same H (upd (upd H5 t2 (.tup [.int (j1 : Int), .int (j2 : Int)])) p o') := fun o' b o e => by
                rw [upd_ne (ne_of_none e hpH)]
                exact sm_upd ht2 _ _ (L2.gr.same _ _ (s3 e))
              have ht2H : H t2 = none := by
                cases e : H t2 with
                | none => rfl
                | some o => rw [L2.gr.same _ _ (s3 e)] at ht2; cases ht2
              have gt : G t2 = none := sm_none sG ht2H
              have gp : G p = none := sm_none sG hpH
              have x := (((Grow.refl sG).loose (sE (.ins a.entry dxp (fEntry (.str sRead) .non (.bl false) (.int (k : Int)) (.ref t2))))).keep (p := t2) (o := .tup [.int (j1 : Int), .int (j2 : Int)]) (by rw [upd_ne (Ne.symm npt), upd_same]) ht2H gt).keep (p := p) upd_same hpH (by rw [upd_ne npt]; exact gp)
              exact q.2 _ hrd _ _ p x hpH ⟨t2, ⟨dxp, upd_same⟩, by show upd _ p _ t2 = _; rw [upd_ne (Ne.symm npt), upd_same]⟩
          · refine ifT ?_ (q.1 (rn ?_) H1 s1)
            · cases h1 : isNum c 0 100 <;> cases h2 : isNum ww 0 100 <;> simp_all
            · show (match numV c, numV ww with
                | some x, some y => some (x, y)
                | _, _ => none) = none
              unfold numV
              cases h1 : isNum c 0 100 <;> cases h2 : isNum ww 0 100 <;> simp_all
end
end Zr
end
section
set_option maxRecDepth 100000
set_option maxHeartbeats 2000000
/-! The defs of reading: an entry of any form. -/
namespace Zr
open PySem PySem.Spec PyProof.Rows L2 L2H
open Zp (oi)
open R7289g.Spec (allSome allDifferent)
section
variable {P : Program} {w : World} {K : PySem.W.Frag} {mg : Str → Option Value} {base : Heap} {a : Adr}
def isAns (x : RWire.Value) : List RWire.Value → Bool
  | [y] => isWord x sAnswered && (boolV y).isSome
  | _ => false
def ansOf : List RWire.Value → Bool
  | [y] => (boolV y).getD false
  | _ => false
theorem isb (y : RWire.Value) : inV (.int (knd y)) [.int 3, .int 2] = (boolV y).isSome := by
  cases y with
  | bool e => cases e <;> rfl
  | _ => rfl
theorem entryV_eq {n : Nat} {x b : RWire.Value} {r : List RWire.Value} (h : r.length ≤ 1) (hr : ∀ y, r = [y] → isWord x sRead = false) : entryV n (.list (x :: b :: r)) =
    if (isWord x sLost && r.isEmpty) = true then (batchV n b).map .lost else if isAns x r = true then (batchV n b).map (fun c => .answered c (ansOf r)) else none := by
  match r, h with
  | [], _ =>
    show (if isWord x sLost = true then _ else _) = if (isWord x sLost && true) = true then _ else if false = true then _ else _
    rw [Bool.and_true]
    rfl
  | [y], _ =>
    have h := hr y rfl
    show (if isWord x sRead = true then _ else if isWord x sAnswered = true then (match batchV n b, boolV y with
      | some b, some e => some (R7289g.Spec.Entry.answered b e)
      | _, _ => none) else none) = if (isWord x sLost && false) = true then _ else if (isWord x sAnswered && (boolV y).isSome) = true then (batchV n b).map (fun c => .answered c ((boolV y).getD false)) else none
    rw [h, Bool.and_false]
    cases isWord x sAnswered <;> cases boolV y <;> cases batchV n b <;> rfl
def spEntryOf (a : Adr) : Sp := sp2 fun x y H Q E => ∃ (p : Addr) (v : RWire.Value) (n : Nat) (G : Hp), x = .ref p ∧ y = .int (n : Int) ∧ PAt a H v p ∧ Same G H ∧ spOpt (entryV n v) (EntAt a) G H Q
theorem c_entry_of (T : Txt K mg a) : Cal P w K mg base 4 "entry_of" (spEntryOf a) := by
  refine cal T.d_entry_of sc_entry_of len2 fun f cdv A outer s H vs Q E hr h => ?_
  obtain ⟨_, _, rfl, p, v, n, G, rfl, rfl, hp, sG, q⟩ := h
  refine ⟨_, (pss_cons (ps_if (pt_not (pt_val (pe_c (c_is_list T) hr (by decide) rfl (pa_cons (pv 0) (pa_cons pe_int (pa_cons pe_int pa_nil)))))) (pss_one (ps_ret pe_non)) pss_nil)
    (pss_cons (ps_set (i := 2) sc_entry_of.nd rfl (Or.inl rfl) (pe_f T.c_Piece.cl T.n_Piece_content (pv 0)))
    (pss_cut (ps_if (PW.pt (pw_and (pt_val (pe_c (c_is_word T) hr (by decide) rfl (pa_cons (pe_ix ix_list (pv 2) pe_int (fun _ _ => rfl)) (pa_cons (pe_gc rfl T.k_READ) pa_nil)))) (pw_and1 (pt_cmpR op_eq (pe_callB call_len_seq rfl T.b_len (by decide +kernel) (pa_cons (pv 2) pa_nil)) pe_int (nomark _))))) (pss_one (ps_ret (pe_c (c_read_entry T) hr (by decide) rfl (pa_cons (pv 2) (pa_cons (pv 1) pa_nil))))) pss_nil)
    (pss_cut (ps_set (i := 3) sc_entry_of.nd rfl (Or.inl rfl) (pe_and (pe_c (c_is_word T) hr (by decide) rfl (pa_cons (pe_ix ix_list (pv 2) pe_int (fun _ _ => rfl)) (pa_cons (pe_gc rfl T.k_LOST) pa_nil))) (pe_one (pe_cmpR op_eq (pe_callB call_len_seq rfl T.b_len (by decide +kernel) (pa_cons (pv 2) pa_nil)) pe_int (nomark _)))))
    (pss_cut (ps_set (i := 4) sc_entry_of.nd rfl (Or.inl rfl) (pe_and (pe_c (c_is_word T) hr (by decide) rfl (pa_cons (pe_ix ix_list (pv 2) pe_int (fun _ _ => rfl)) (pa_cons (pe_gc rfl T.k_ANSWERED) pa_nil))) (pe_and (pe_cmpR op_eq (pe_callB call_len_seq rfl T.b_len (by decide +kernel) (pa_cons (pv 2) pa_nil)) pe_int (nomark _)) (pe_one (pe_cmpR op_in_seq (pe_f T.c_Piece.cl T.n_Piece_kind (pe_ix ix_list (pv 2) pe_int (fun _ _ => rfl))) (pe_tup (pa_cons (pe_gc rfl T.k_TRUE) (pa_cons (pe_gc rfl T.k_FALSE) pa_nil))) (by rfl))))))
    (pss_cut (ps_set (i := 5) sc_entry_of.nd rfl (Or.inl rfl) (pe_ifExp (PW.pt (pw_or (pt_val (pv 3)) (pw_or1 (pt_val (pv 4))))) (pe_c (c_batch_of T) hr (by decide) rfl (pa_cons (pe_ix ix_list (pv 2) pe_int (fun _ _ => rfl)) (pa_cons (pv 1) pa_nil))) pe_non))
    (pss_cons (ps_if (pt_cmpR op_isN (pv 5) pe_non (nomark _)) (pss_one (ps_ret pe_non)) pss_nil)
    (pss_cons (ps_set (i := 6) sc_entry_of.nd rfl (Or.inl rfl) (pe_mk (m_Entry T) hr (by decide) rfl (pa_cons (pe_ifExp (pt_val (pv 3)) (pe_gc rfl T.k_LOST) (pe_gc rfl T.k_ANSWERED)) (pa_cons (pv 5) pa_nil))))
    (pss_cons (ps_f T.c_Entry.cl T.n_Entry_effect (pv 6) (pe_and (pv 4) (pe_one (pe_cmpR op_eq (pe_f T.c_Piece.cl T.n_Piece_kind (pe_ix ix_list (pv 2) pe_int (fun _ _ => rfl))) (pe_gc rfl T.k_TRUE) (nomark _)))))
    (pss_one (ps_ret (pv 6)))))))))))), ?_⟩
  refine ⟨_, rfl, _, _, _, rfl, p, v, 2, 3, rfl, rfl, rfl, hp, _, rfl, ?_⟩
  cases hL : isLst v 2 3 with
  | false =>
    refine ifT rfl (q.1 ?_ H (Same.refl _))
    cases v with
    | list m =>
      match m, hL with
      | [], _ => rfl
      | [x], _ => rfl
      | [x, y], h => simp [isLst] at h
      | [x, y, z], h => simp [isLst] at h
      | _ :: _ :: _ :: _ :: _, _ => rfl
    | _ => rfl
  | true =>
    obtain ⟨m, rfl, hm1, hm2⟩ := isLst_val hL
    obtain ⟨l0, ps, ⟨dx, ek⟩, ho, hall⟩ := hp
    have hpl := pall_len hall
    obtain ⟨x, b, r, rfl⟩ : ∃ x b r, m = x :: b :: r := by
      match m, hm1 with
      | x :: b :: r, _ => exact ⟨x, b, r, rfl⟩
    obtain ⟨b0, r0, rfl, hx, b1, r1, rfl, hb, hr1⟩ := hall
    have hrl : r.length ≤ 1 := by
      simp at hm2
      omega
    refine ifF rfl ⟨_, rfl, p, dx, _, _, rfl, ek, rfl, ?_⟩
    -- behind the first test: no entry that was read
    refine ⟨fun σ HH => σ = [some (.ref p), some (.int (n : Int)), some (.ref l0), none, none, none, none] ∧ Same H HH ∧ (∀ y, r = [y] → isWord x sRead = false), ?_, ?_⟩
    · match r, hr1, hrl, ho, q with
      | [], hr1, _, ho, q =>
        subst hr1
        refine ⟨_, rfl, l0, _, _, _, rfl, rfl, SqL.of ho, rfl, _, _, rfl, b0, x, sRead, rfl, rfl, hx, (by decide +kernel), fun H1 s1 => ⟨_, rfl, ?_⟩⟩
        cases isWord x sRead with
        | true => exact ifT rfl ⟨_, rfl, l0, _, rfl, .inl (SqL.of (s1 _ _ ho)), rfl, _, rfl, ifF rfl ⟨rfl, s1, fun y z => by cases z⟩⟩
        | false => exact ifF rfl (ifF rfl ⟨rfl, s1, fun y z => by cases z⟩)
      | [y], hr1, _, ho, q =>
        obtain ⟨b2, r2, rfl, hy, rfl⟩ := hr1
        refine ⟨_, rfl, l0, _, _, _, rfl, rfl, SqL.of ho, rfl, _, _, rfl, b0, x, sRead, rfl, rfl, hx, (by decide +kernel), fun H1 s1 => ⟨_, rfl, ?_⟩⟩
        cases hw : isWord x sRead with
        | true =>
          refine ifT rfl ⟨_, rfl, l0, _, rfl, .inl (SqL.of (s1 _ _ ho)), rfl, _, rfl, ifT rfl ⟨_, rfl, _, rfl, _, _, rfl, l0, b0, b1, b2, b, y, n, G, rfl, rfl, s1 _ _ ho, PAt.same s1 _ _ hb, PAt.same s1 _ _ hy, sG.trans s1, fun h2 H2 s2 => ?_, fun e h2 G2 H2 q2 x2 n2 r2 => ?_⟩⟩
          · refine q.1 ?_ H2 (s1.trans s2)
            show (if isWord x sRead = true then readV n b y else _) = none
            rw [hw]
            exact h2
          · refine q.2 e ?_ G2 H2 q2 ((Grow.refl sG).loose s1 |>.trans x2) (sm_none s1 n2) r2
            show (if isWord x sRead = true then readV n b y else _) = some e
            rw [hw]
            exact h2
        | false => exact ifF rfl (ifF rfl ⟨rfl, s1, fun _ _ => rfl⟩)
    rintro σ1 H1 ⟨rfl, s1, hnr⟩
    have hx1 := PAt.same s1 _ _ hx
    have ho1 := s1 _ _ ho
    -- which of the other forms
    have hln : ((b0 :: b1 :: r1).map V.ref).length = r.length + 2 := by
      have : r.length = r1.length := pall_len hr1
      simp [this]
    have e2 : decide (V.int (((b0 :: b1 :: r1).map V.ref).length : Int) = V.int 2) = r.isEmpty := by
      rw [hln, decI]
      cases r with
      | nil => rfl
      | cons _ _ => simp; omega
    have e3 : decide (V.int (((b0 :: b1 :: r1).map V.ref).length : Int) = V.int 3) = !r.isEmpty := by
      rw [hln, decI]
      match r, hrl with
      | [], _ => rfl
      | [_], _ => rfl
    refine ⟨fun σ HH => σ = [some (.ref p), some (.int (n : Int)), some (.ref l0), some (.bl (isWord x sLost && r.isEmpty)), none, none, none] ∧ Same H HH, ?_, ?_⟩
    · refine ⟨_, rfl, l0, _, _, _, rfl, rfl, SqL.of ho1, atI_nat (j := 0) rfl, _, _, rfl, b0, x, sLost, rfl, rfl, hx1, (by decide +kernel), fun H2 s2 => ⟨_, rfl, ?_⟩⟩
      have s12 := s1.trans s2
      cases hwl : isWord x sLost with
      | true =>
        refine ifT rfl ⟨_, rfl, l0, _, rfl, .inl (SqL.of (s12 _ _ ho)), rfl, ?_⟩
        rw [e2]
        exact ⟨rfl, s12⟩
      | false => exact ifF rfl ⟨rfl, s12⟩
    rintro σ1 H2 ⟨rfl, s2⟩
    refine ⟨fun σ HH => σ = [some (.ref p), some (.int (n : Int)), some (.ref l0), some (.bl (isWord x sLost && r.isEmpty)), some (.bl (isAns x r)), none, none] ∧ Same H HH, ?_, ?_⟩
    · refine ⟨_, rfl, l0, _, _, _, rfl, rfl, SqL.of (s2 _ _ ho), atI_nat (j := 0) rfl, _, _, rfl, b0, x, sAnswered, rfl, rfl, PAt.same s2 _ _ hx, (by decide +kernel), fun H3 s3 => ⟨_, rfl, ?_⟩⟩
      have s13 := s2.trans s3
      cases hwa : isWord x sAnswered with
      | true =>
        refine ifT rfl ⟨_, rfl, l0, _, rfl, .inl (SqL.of (s13 _ _ ho)), rfl, _, rfl, ?_⟩
        rw [e3]
        match r, hr1, hrl, ho with
        | [], _, _, _ => exact ifF rfl ⟨rfl, s13⟩
        | [y], hr1, _, ho =>
          obtain ⟨b2, r2, rfl, hy, rfl⟩ := hr1
          obtain ⟨cy, dy, ey⟩ := pat_kind hy
          refine ifT rfl ⟨_, rfl, l0, _, _, _, rfl, rfl, SqL.of (s13 _ _ ho), rfl, b2, dy, _, _, rfl, s13 _ _ ey, rfl, fit rfl, fun t ht => ⟨t, _, rfl, .inr (SqT.of upd_same), rfl, rfl, ?_⟩⟩
          have e : isAns x [y] = inV (.int (knd y)) [.int 3, .int 2] := by
            show (isWord x sAnswered && (boolV y).isSome) = _
            rw [hwa, Bool.true_and, isb y]
          rw [e]
          exact ⟨rfl, s13.trans (sm_upd ht)⟩
      | false =>
        refine ifF rfl ?_
        have e : isAns x r = false := by
          match r, hrl with
          | [], _ => rfl
          | [y], _ =>
            show (isWord x sAnswered && _) = false
            rw [hwa]
            rfl
        rw [e]
        exact ⟨rfl, s13⟩
    rintro σ1 H3 ⟨rfl, s3⟩
    rw [entryV_eq hrl hnr] at q
    -- the batch
    refine ⟨fun σ HH => ∃ vb G3, σ = [some (.ref p), some (.int (n : Int)), some (.ref l0), some (.bl (isWord x sLost && r.isEmpty)), some (.bl (isAns x r)), some vb, none] ∧ ((vb = .non ∧ Q .non HH) ∨
      ∃ bb q1, vb = .ref q1 ∧ ((isWord x sLost && r.isEmpty) || isAns x r) = true ∧ batchV n b = some bb ∧ Grow G H G3 HH ∧ BatAt a G3 q1 bb), ?_, ?_⟩
    · have hb3 := PAt.same s3 _ _ hb
      have some_ : ((isWord x sLost && r.isEmpty) || isAns x r) = true → (batchV n b = none → ∀ H', Same H H' → Q .non H') := fun h hbn => q.1 (by
        rw [hbn]
        cases (isWord x sLost && r.isEmpty) <;> cases isAns x r <;> rfl)
      refine ⟨_, rfl, _, rfl, ?_⟩
      cases hl : (isWord x sLost && r.isEmpty) with
      | true =>
        refine ifT rfl (ifT rfl ⟨_, rfl, l0, _, _, _, rfl, rfl, SqL.of (s3 _ _ ho), atI_nat (j := 1) rfl, _, rfl, _, _, rfl, b1, b, n, G, rfl, rfl, hb3, sG.trans s3, fun h4 H4 s4 => ?_, fun bb h4 G4 H4 q4 x4 n4 r4 => ?_⟩)
        · exact ⟨_, G, rfl, .inl ⟨rfl, some_ (by rw [hl]; rfl) h4 H4 (s3.trans s4)⟩⟩
        · exact ⟨_, G4, rfl, .inr ⟨bb, q4, rfl, rfl, h4, ((Grow.refl sG).loose s3).trans x4, r4⟩⟩
      | false =>
        refine ifF rfl ⟨_, rfl, _, rfl, ?_⟩
        cases ha : isAns x r with
        | true =>
          refine ifT rfl ⟨_, rfl, l0, _, _, _, rfl, rfl, SqL.of (s3 _ _ ho), atI_nat (j := 1) rfl, _, rfl, _, _, rfl, b1, b, n, G, rfl, rfl, hb3, sG.trans s3, fun h4 H4 s4 => ?_, fun bb h4 G4 H4 q4 x4 n4 r4 => ?_⟩
          · exact ⟨_, G, rfl, .inl ⟨rfl, some_ (by rw [hl, ha]; rfl) h4 H4 (s3.trans s4)⟩⟩
          · exact ⟨_, G4, rfl, .inr ⟨bb, q4, rfl, rfl, h4, ((Grow.refl sG).loose s3).trans x4, r4⟩⟩
        | false =>
          refine ifF rfl ⟨_, G, rfl, .inl ⟨rfl, q.1 ?_ H3 s3⟩⟩
          rw [hl, ha]
          rfl
    rintro σ1 H4 ⟨vb, G4, rfl, ⟨rfl, qn⟩ | ⟨bb, q1, rfl, hor, hbb, x4, r4⟩⟩
    · exact ⟨_, rfl, rfl, _, rfl, ifT rfl qn⟩
    · refine ⟨_, rfl, rfl, _, rfl, ifF rfl ?_⟩
      rw [hbb] at q
      have fin : ∀ (frm : Str) (eff : Bool) (e : R7289g.Spec.Entry) (H6 : Hp) (p6 t6 dp : Addr), H4 p6 = none → Same H4 H6 → H6 p6 = some (.ins a.entry dp (fEntry (.str frm) (.ref q1) (.bl eff) (.int 0) (.ref t6))) →
          (∀ G6, Ins G6 p6 a.entry (fEntry (.str frm) (.ref q1) (.bl eff) (.int 0) (.ref t6)) → BatAt a G6 q1 bb → EntAt a G6 p6 e) →
          (if (isWord x sLost && r.isEmpty) = true then (some bb).map R7289g.Spec.Entry.lost else if isAns x r = true then (some bb).map (fun c => .answered c (ansOf r)) else none) = some e → Q (.ref p6) H6 := by
        intro frm eff e H6 p6 t6 dp n6 s6 e6 k6 he
        have g6 := sm_none x4.sub n6
        exact q.2 e he _ H6 p6 ((x4.loose s6).keep e6 (sm_none x4.same n6) g6) (sm_none x4.same n6) (k6 _ ⟨dp, upd_same⟩ (r4.same (sm_upd g6)))
      refine ⟨_, rfl, _, rfl, ?_⟩
      cases hl : (isWord x sLost && r.isEmpty) with
      | true =>
        rw [hl] at fin
        refine ifT rfl ⟨_, rfl, ?_⟩
        intro p6 d6 n6 nd6 ne6
        refine madeE n6 nd6 fun H5 t5 s5 nt5 _ hi => ?_
        obtain ⟨dp, e5⟩ := hi
        have hna : isAns x r = false := by
          match r, hrl with
          | [], _ => rfl
          | [y], _ => simp at hl
        rw [hna]
        refine ⟨_, rfl, _, rfl, ifF rfl ⟨_, rfl, p6, dp, _, rfl, e5, rfl, _, rfl, ?_⟩⟩
        refine fin sLost false (.lost bb) _ p6 t5 dp n6 (fun b o e => ?_) upd_same (fun G6 h1 h2 => ⟨q1, t5, h1, h2⟩) rfl
        rw [upd_ne (ne_of_none e n6)]
        exact s5 _ _ e
      | false =>
        rw [hl] at fin hor
        have ha : isAns x r = true := by simpa using hor
        rw [ha] at fin ⊢
        refine ifF rfl ⟨_, rfl, ?_⟩
        intro p6 d6 n6 nd6 ne6
        refine madeE n6 nd6 fun H5 t5 s5 nt5 _ hi => ?_
        obtain ⟨dp, e5⟩ := hi
        match r, hr1, hrl, ho, ha, fin with
        | [y], hr1, _, ho, ha, fin =>
          obtain ⟨b2, r2, rfl, hy, rfl⟩ := hr1
          obtain ⟨ey, hey⟩ : ∃ e, y = .bool e := by
            have h : (isWord x sAnswered && (boolV y).isSome) = true := ha
            cases y with
            | bool e => exact ⟨e, rfl⟩
            | _ => simp [boolV] at h
          subst hey
          obtain ⟨dy, ey2⟩ : Pc a H b2 (if ey then 3 else 2) (.int 0) := hy
          have s45 := x4.same.trans s5
          refine ⟨_, rfl, _, rfl, ifT rfl ⟨_, rfl, l0, _, _, _, rfl, rfl, SqL.of (s45 _ _ ho), rfl, b2, dy, _, _, rfl, s45 _ _ ey2, rfl, rfl, _, rfl, p6, dp, _, rfl, e5, rfl, _, rfl, ?_⟩⟩
          have ee : decide (V.int (if ey then 3 else 2) = V.int 3) = ey := by cases ey <;> rfl
          rw [ee]
          refine fin sAnswered ey (.answered bb ey) _ p6 t5 dp n6 (fun b o e => ?_) upd_same (fun G6 h1 h2 => ⟨q1, t5, h1, h2⟩) rfl
          rw [upd_ne (ne_of_none e n6)]
          exact s5 _ _ e
end
end Zr
end
section
set_option maxRecDepth 100000
set_option maxHeartbeats 2000000
/-! The defs of reading: keys, logs. -/
namespace Zr
open PySem PySem.Spec PyProof.Rows L2 L2H
open Zp (oi)
open R7289g.Spec (allSome allDifferent)
section
variable {H H' : Hp}
def EntsT (a : Adr) (H : Hp) : List R7289g.Spec.Entry → List Addr → Prop
  | [], ts => ts = []
  | e :: l, ts => ∃ t r, ts = t :: r ∧ EntAt a H t e ∧ EntsT a H l r
theorem EntsT.same {a : Adr} (s : Same H H') : ∀ {l : List R7289g.Spec.Entry} {ts : List Addr}, EntsT a H l ts → EntsT a H' l ts
  | [], _, h => h
  | e :: l, _, ⟨t, r, e1, h1, h2⟩ => ⟨t, r, e1, h1.same s, EntsT.same s h2⟩
theorem EntsT.len {a : Adr} : ∀ {l : List R7289g.Spec.Entry} {ts : List Addr}, EntsT a H l ts → ts.length = l.length
  | [], _, h => by subst h; rfl
  | e :: l, _, ⟨t, r, e1, h1, h2⟩ => by subst e1; simp [EntsT.len h2]
theorem EntsT.get {a : Adr} : ∀ {l : List R7289g.Spec.Entry} {ts : List Addr} {i : Nat} {t : Addr}, EntsT a H l ts → ts[i]? = some t → ∃ e, l[i]? = some e ∧ EntAt a H t e
  | [], _, i, _, h, k => by subst h; simp at k
  | e :: l, _, 0, _, ⟨t, r, e1, h1, h2⟩, k => by subst e1; cases k; exact ⟨e, rfl, h1⟩
  | e :: l, _, i + 1, _, ⟨t, r, e1, h1, h2⟩, k => by
    subst e1
    obtain ⟨e', k1, k2⟩ := EntsT.get h2 (i := i) (by simpa using k)
    exact ⟨e', by simpa using k1, k2⟩
/-- a log of at most eight entries -/
def LogAt (a : Adr) (H : Hp) (p : Addr) (l : List R7289g.Spec.Entry) : Prop := l.length ≤ 8 ∧ ∃ ts, H p = some (.lst (ts.map V.ref)) ∧ EntsT a H l ts
theorem LogAt.same {a : Adr} (s : Same H H') {p : Addr} {l : List R7289g.Spec.Entry} (h : LogAt a H p l) : LogAt a H' p l := ⟨h.1, let ⟨ts, h1, h2⟩ := h.2; ⟨ts, s _ _ h1, h2.same s⟩⟩
/-- the form of an entry -/
def formOf : R7289g.Spec.Entry → Str
  | .lost _ => sLost
  | .answered _ _ => sAnswered
  | .read _ _ => sRead
def isLostE : R7289g.Spec.Entry → Bool
  | .lost _ => true
  | _ => false
theorem form_lost (e : R7289g.Spec.Entry) : decide (V.str (formOf e) = V.str sLost) = isLostE e := by
  have h1 : sAnswered ≠ sLost := by decide +kernel
  have h2 : sRead ≠ sLost := by decide +kernel
  cases e with
  | lost b => simp [formOf, isLostE]
  | answered b e => exact decide_eq_false fun z => h1 (V.str.inj z)
  | read k r => exact decide_eq_false fun z => h2 (V.str.inj z)
theorem EntAt.ins {a : Adr} {p : Addr} {e : R7289g.Spec.Entry} (h : EntAt a H p e) : ∃ dx b ef k r, H p = some (.ins a.entry dx (fEntry (.str (formOf e)) b ef k r)) := by
  cases e with
  | lost b => obtain ⟨q, t, ⟨dx, h1⟩, _⟩ := h; exact ⟨dx, _, _, _, _, h1⟩
  | answered b e => obtain ⟨q, t, ⟨dx, h1⟩, _⟩ := h; exact ⟨dx, _, _, _, _, h1⟩
  | read k r => obtain ⟨t, ⟨dx, h1⟩, _⟩ := h; exact ⟨dx, _, _, _, _, h1⟩
end
section
variable {P : Program} {w : World} {K : PySem.W.Frag} {mg : Str → Option Value} {base : Heap} {a : Adr}
def mKeys : Str := "keys must be an integer from 1 to 4"
def mKey : Str := "key must be the number of a key"
def mLog : Str := "log must be a list of at most 8 entries"
def mMany : Str := "there are more than 5 lost batches"
theorem c_keys_of (T : Txt K mg a) : CalX P w K mg base 4 "keys_of" (sp1 fun x H Q E => ∃ (p : Addr) (v : RWire.Value), x = .ref p ∧ PAt a H v p ∧ (isNum v 1 4 = false → ERef a 2 mKeys H E) ∧ ∀ i, v = .int i → isNum v 1 4 = true → Q (.int i) H) := by
  refine calX T.d_keys_of sc_keys_of len1 fun f cdv A outer s H vs Q E hr h => ?_
  obtain ⟨_, rfl, p, v, rfl, hp, q1, q2⟩ := h
  refine ⟨_, (pss_cons (ps_expr (pe_cx (c_check T) hr (by decide) (L2N.takes_of rfl rfl rfl rfl) rfl (pa_cons (pe_c (c_is_number T) hr (by decide) rfl (pa_cons (pv 0) (pa_cons pe_int (pa_cons (pe_gc rfl T.k_MOST_KEYS) pa_nil)))) (pa_cons pe_str pa_nil))))
    (pss_one (ps_ret (pe_f T.c_Piece.cl T.n_Piece_content (pv 0))))), ?_⟩
  refine ⟨_, rfl, _, _, _, rfl, p, v, 1, 4, rfl, rfl, rfl, hp, _, _, rfl, isNum v 1 4, mKeys, rfl, rfl, fun h => ?_, q1⟩
  obtain ⟨i, rfl, _⟩ := isNum_val h
  obtain ⟨dx, e⟩ := pat_int hp
  exact ⟨_, rfl, p, dx, _, _, rfl, e, rfl, q2 i rfl h⟩
theorem c_key_of (T : Txt K mg a) : CalX P w K mg base 4 "key_of" (sp2 fun x y H Q E => ∃ (p : Addr) (v : RWire.Value) (n : Nat), x = .ref p ∧ y = .int (n : Int) ∧ PAt a H v p ∧ (isNum v 0 ((n : Int) - 1) = false → ERef a 2 mKey H E) ∧ ∀ i, v = .int i → isNum v 0 ((n : Int) - 1) = true → Q (.int i) H) := by
  refine calX T.d_key_of sc_key_of len2 fun f cdv A outer s H vs Q E hr h => ?_
  obtain ⟨_, _, rfl, p, v, n, rfl, rfl, hp, q1, q2⟩ := h
  refine ⟨_, (pss_cons (ps_expr (pe_cx (c_check T) hr (by decide) (L2N.takes_of rfl rfl rfl rfl) rfl (pa_cons (pe_c (c_is_number T) hr (by decide) rfl (pa_cons (pv 0) (pa_cons pe_int (pa_cons (pe_op op_sub (pv 1) pe_int) pa_nil)))) (pa_cons pe_str pa_nil))))
    (pss_one (ps_ret (pe_f T.c_Piece.cl T.n_Piece_content (pv 0))))), ?_⟩
  refine ⟨_, rfl, _, rfl, _, _, rfl, rfl, _, _, _, rfl, p, v, 0, (n : Int) - 1, rfl, rfl, rfl, hp, _, _, rfl, isNum v 0 ((n : Int) - 1), mKey, rfl, rfl, fun h => ?_, q1⟩
  obtain ⟨i, rfl, _⟩ := isNum_val h
  obtain ⟨dx, e⟩ := pat_int hp
  exact ⟨_, rfl, p, dx, _, _, rfl, e, rfl, q2 i rfl h⟩
def listV (n : Nat) (v : RWire.Value) : Option (List R7289g.Spec.Entry) := (lstV 0 8 v).bind (allSome (entryV n))
theorem allSome_get {α β : Type} {f : α → Option β} : ∀ {l : List α} {r : List β} {i : Nat} {x : α}, allSome f l = some r → l[i]? = some x → ∃ y, f x = some y ∧ r[i]? = some y
  | [], r, i, x, _, k => by simp at k
  | y :: l, r, i, x, h, k => by
    have h : (f y).bind (fun a => (allSome f l).map fun l => a :: l) = some r := h
    cases hf : f y with
    | none => rw [hf] at h; cases h
    | some b =>
      rw [hf] at h
      cases hl : allSome f l with
      | none => rw [hl] at h; cases h
      | some r' =>
        rw [hl] at h
        cases h
        cases i with
        | zero => cases k; exact ⟨b, hf, rfl⟩
        | succ i =>
          obtain ⟨z, h1, h2⟩ := allSome_get (i := i) hl (by simpa using k)
          exact ⟨z, h1, by simpa using h2⟩
theorem allSome_bad {α β : Type} {f : α → Option β} : ∀ {l : List α}, allSome f l = none → ∃ x ∈ l, f x = none
  | [], h => by cases h
  | y :: l, h => by
    have h : (f y).bind (fun a => (allSome f l).map fun l => a :: l) = none := h
    cases hf : f y with
    | none => exact ⟨y, by simp, hf⟩
    | some b =>
      rw [hf] at h
      cases hl : allSome f l with
      | none =>
        obtain ⟨x, hx, e⟩ := allSome_bad hl
        exact ⟨x, by simp [hx], e⟩
      | some r' => rw [hl] at h; cases h
def spLogOf (a : Adr) : Sp := sp2 fun x y H Q E => ∃ (p : Addr) (v : RWire.Value) (n : Nat) (G : Hp), x = .ref p ∧ y = .int (n : Int) ∧ PAt a H v p ∧ Same G H ∧ (listV n v = none → ∀ H', Same H H' → ERef a 1 mLog H' E) ∧
  ∀ l, listV n v = some l → (5 < (l.filter isLostE).length → ∀ H', Same H H' → ERef a 2 mMany H' E) ∧ ((l.filter isLostE).length ≤ 5 → ∀ G' H' q, Grow G H G' H' → H q = none → LogAt a G' q l → Q (.ref q) H')
theorem c_log_of (T : Txt K mg a) : CalX P w K mg base 5 "log_of" (spLogOf a) := by
  refine calX T.d_log_of sc_log_of len2 fun f cdv A outer s H vs Q E hr h => ?_
  obtain ⟨_, _, rfl, p, v, n, G, rfl, rfl, hp, sG, q1, q2⟩ := h
  refine ⟨_, (pss_cons (ps_set (i := 2) sc_log_of.nd rfl (Or.inl rfl) pe_str)
    (pss_cons (ps_expr (pe_cx (c_need T) hr (by decide) (L2N.takes_of rfl rfl rfl rfl) rfl (pa_cons (pe_c (c_is_list T) hr (by decide) rfl (pa_cons (pv 0) (pa_cons pe_int (pa_cons (pe_gc rfl T.k_MOST_ENTRIES) pa_nil)))) (pa_cons (pv 2) pa_nil))))
    (pss_cons (ps_setLc (i := 3) (own := [("own", 5)]) (g := (gName 5)) (tt := tYes) rfl sc_log_of.nd rfl rfl (sw_true rfl rfl rfl (by decide +kernel)) (pi_list (pe_f T.c_Piece.cl T.n_Piece_content (pv 0))) (blkOk_by (N := ["piece", "keys", "message", "found", "lost", "own"]) (sc := defScope s_log_of) (by decide +kernel)) (fun _ _ _ _ _ => (pg_name (i := 5) sc_log_of.nd rfl (Or.inl rfl))) (fun _ _ _ _ _ => pts_nil) (fun _ _ _ _ _ => (pe_c (c_entry_of T) hr (by decide) rfl (pa_cons (pv 5) (pa_cons (pv 1) pa_nil)))))
    (pss_cons (ps_expr (pe_cx (c_need T) hr (by decide) (L2N.takes_of rfl rfl rfl rfl) rfl (pa_cons (pe_callB (cr_all rfl) rfl T.b_all (by decide +kernel) (pa_cons (pe_lc (own := [("own", 5)]) (g := (gName 5)) (tt := tYes) rfl sc_log_of.nd (pi_list (pv 3)) (blkOk_by (N := ["piece", "keys", "message", "found", "lost", "own"]) (sc := defScope s_log_of) (by decide +kernel)) (fun _ _ _ _ _ => (pg_name (i := 5) sc_log_of.nd rfl (Or.inl rfl))) (fun _ _ _ _ _ => pts_nil) (fun _ _ _ _ _ => (pe_cmpR op_notN (pv 5) pe_non (nomark _)))) pa_nil)) (pa_cons (pv 2) pa_nil))))
    (pss_cons (ps_setLc (i := 4) (own := [("own", 5)]) (g := (gName 5)) rfl sc_log_of.nd rfl rfl (sw_true rfl rfl rfl (by decide +kernel)) (pi_list (pv 3)) (blkOk_by (N := ["piece", "keys", "message", "found", "lost", "own"]) (sc := defScope s_log_of) (by decide +kernel)) (fun _ _ _ _ _ => (pg_name (i := 5) sc_log_of.nd rfl (Or.inl rfl))) (fun _ _ _ _ _ => (pts_one (pt_cmpR op_eq (pe_f T.c_Entry.cl T.n_Entry_form (pv 5)) (pe_gc rfl T.k_LOST) (nomark _)))) (fun _ _ _ _ _ => (pv 5)))
    (pss_cons (ps_expr (pe_cx (c_check T) hr (by decide) (L2N.takes_of rfl rfl rfl rfl) rfl (pa_cons (pe_cmpR op_le (pe_callB call_len_seq rfl T.b_len (by decide +kernel) (pa_cons (pv 4) pa_nil)) (pe_gc rfl T.k_MOST_LOST) (nomark _)) (pa_cons pe_str pa_nil))))
    (pss_one (ps_ret (pv 3))))))))), ?_⟩
  refine ⟨_, rfl, _, _, _, rfl, p, v, 0, 8, rfl, rfl, rfl, hp, _, rfl, _, _, rfl, isLst v 0 8, mLog, rfl, rfl, fun hL => ?_, fun hL => q1 ?_ H (Same.refl _)⟩
  rotate_left
  · unfold listV lstV
    cases v with
    | list m => simp only [hL]; rfl
    | _ => rfl
  obtain ⟨m, rfl, hm1, hm2⟩ := isLst_val hL
  obtain ⟨l0, ps, ⟨dx, ek⟩, ho, hall⟩ := hp
  have hpl := pall_len hall
  have hV : listV n (.list m) = allSome (entryV n) m := by
    unfold listV lstV
    simp only [hL]
    rfl
  rw [hV] at q1 q2
  have get_ref : ∀ {xs : List Addr} {i : Nat} {x : V}, (xs.map V.ref)[i]? = some x → ∃ t, xs[i]? = some t ∧ x = .ref t := by
    intro xs i x hx
    rw [List.getElem?_map] at hx
    cases e : xs[i]? with
    | none => rw [e] at hx; cases hx
    | some t => rw [e] at hx; cases hx; exact ⟨t, rfl, rfl⟩
  refine ⟨_, rfl, p, dx, _, _, rfl, ek, rfl, l0, rfl, ⟨_, SqL.of ho⟩, fun D hD => lc_l (xs := ps.map V.ref) (G0 := G) (fun _ => true) (fun i y G' => ∀ x, m[i]? = some x → (entryV n x = none ∧ y = .non) ∨ ∃ e t, entryV n x = some e ∧ y = .ref t ∧ EntAt a G' t e) (SqL.of ho) hD sG (by simp; omega) ?_ ?_ ?_⟩
  · intro i y G1 G2 sm h x hx
    rcases h x hx with h | ⟨e, t, h1, h2, h3⟩
    · exact .inl h
    · exact .inr ⟨e, t, h1, h2, h3.same sm⟩
  · intro i x G1 H1 hx gr Yes No k _
    obtain ⟨t, ht, rfl⟩ := get_ref hx
    have hi : i < m.length := by rw [hpl]; exact (List.getElem?_eq_some_iff.mp ht).1
    have hmi : m[i]? = some m[i] := List.getElem?_eq_getElem hi
    have hPi := PAt.same gr.same _ _ (pall_get hall hmi ht)
    refine ⟨rfl, _, rfl, _, rfl, _, _, rfl, t, m[i], n, G1, rfl, rfl, hPi, gr.sub, fun h2 H2 s2 => ?_, fun e h2 G2 H2 q2 x2 n2 r2 => ?_⟩
    · exact k rfl _ G1 H2 ((Grow.refl gr.sub).loose s2) fun x hx' => by rw [hmi] at hx'; cases hx'; exact .inl ⟨h2, rfl⟩
    · exact k rfl _ G2 H2 x2 fun x hx' => by rw [hmi] at hx'; cases hx'; exact .inr ⟨e, q2, h2, rfl, r2⟩
  · intro G1 H1 ys L
    obtain ⟨hyl, hel⟩ := L.each
    rw [List.length_map, ← hpl] at hyl
    have s1 := L.gr.same
    -- are all of them entries?
    refine ⟨_, rfl, D, rfl, ⟨_, SqL.of L.at_⟩, fun D2 hD2 => lc_l (xs := ys) (G0 := G1) (fun _ => true) (fun i y _ => y = .bl (!decide (ys.getD i .non = .non))) (SqL.of L.at_) hD2 L.gr.sub (by omega) (fun i y G G' _ h => h) ?_ ?_⟩
    · intro i x G2 H2 hx gr Yes No k _
      refine ⟨rfl, _, rfl, rfl, k rfl _ G2 H2 (Grow.refl gr.sub) ?_⟩
      rw [List.getD_eq_getElem?_getD, hx]
      rfl
    · intro G2 H2 zs L2
      have hz : zs = ((List.range ys.length).map fun i => !decide (ys.getD i .non = .non)).map V.bl := by
        rw [L2.vals, List.map_map]
        rfl
      have e2 := L2.at_
      rw [hz] at e2
      have s2 := s1.trans L2.gr.same
      refine ⟨D2, _, rfl, SqL.of e2, _, rfl, _, _, rfl, _, mLog, rfl, rfl, fun hyes => ?_, fun hno => q1 ?_ H2 s2⟩
      · -- all are
        have hall2 : ∀ (i : Nat) (hi : i < m.length), ∃ e t, entryV n m[i] = some e ∧ ys[i]? = some (.ref t) ∧ EntAt a G1 t e := by
          intro i hi
          have hyi : ys[i]? = some ys[i] := List.getElem?_eq_getElem (by omega)
          rcases hel i _ hyi m[i] (List.getElem?_eq_getElem hi) with ⟨_, h⟩ | ⟨e, t, h1, h2, h3⟩
          · exfalso
            have := List.all_eq_true.mp hyes (!decide (ys.getD i .non = .non)) (List.mem_map.mpr ⟨i, List.mem_range.mpr (by omega), rfl⟩)
            rw [List.getD_eq_getElem?_getD, hyi, Option.getD_some, h] at this
            simp at this
          · exact ⟨e, t, h1, by rw [hyi, h2], h3⟩
        cases hA : allSome (entryV n) m with
        | none =>
          obtain ⟨x, hx, e⟩ := allSome_bad hA
          obtain ⟨i, hi, rfl⟩ := List.mem_iff_getElem.mp hx
          obtain ⟨e', t, h1, _⟩ := hall2 i hi
          rw [e] at h1
          cases h1
        | some l =>
          obtain ⟨qm, qok⟩ := q2 l hA
          have hll := allSome_len hA
          have hts : ∃ ts : List Addr, ys = ts.map V.ref ∧ EntsT a G1 l ts := by
            have key : ∀ (l' : List R7289g.Spec.Entry) (ys' : List V), ys'.length = l'.length → (∀ (j : Nat) (e : R7289g.Spec.Entry) (y : V), l'[j]? = some e → ys'[j]? = some y → ∃ t, y = V.ref t ∧ EntAt a G1 t e) → ∃ ts : List Addr, ys' = ts.map V.ref ∧ EntsT a G1 l' ts := by
              intro l'
              induction l' with
              | nil =>
                intro ys' h _
                exact ⟨[], List.eq_nil_of_length_eq_zero h, rfl⟩
              | cons e l' ih =>
                intro ys' h k
                cases ys' with
                | nil => simp at h
                | cons y ys' =>
                  obtain ⟨t, rfl, h1⟩ := k 0 e y rfl rfl
                  obtain ⟨us, rfl, hu⟩ := ih ys' (by simpa using h) fun j e y he hy => k (j + 1) e y he hy
                  exact ⟨t :: us, rfl, t, us, rfl, h1, hu⟩
            refine key l ys (by omega) fun j e y he hy => ?_
            have hj : j < m.length := by
              have := (List.getElem?_eq_some_iff.mp hy).1
              omega
            obtain ⟨e', t, h1, h2, h3⟩ := hall2 j hj
            obtain ⟨e'', h4, h5⟩ := allSome_get hA (List.getElem?_eq_getElem hj)
            rw [h1] at h4
            cases h4
            rw [he] at h5
            cases h5
            rw [hy] at h2
            cases h2
            exact ⟨t, rfl, h3⟩
          obtain ⟨ts, rfl, hts⟩ := hts
          have htl := hts.len
          have eD := L2.gr.same _ _ L.at_
          -- the lost ones
          refine ⟨_, rfl, D, rfl, ⟨_, SqL.of eD⟩, fun D3 hD3 => lc_l (xs := ts.map V.ref) (G0 := G1) (fun i => isLostE (l.getD i (.read 0 (0, 0)))) (fun _ _ _ => True) (SqL.of eD) hD3 (L.gr.sub.trans L2.gr.same) (by simp; omega) (fun _ _ _ _ _ _ => trivial) ?_ ?_⟩
          · intro i x G3 H3 hx gr Yes No k1 k2
            obtain ⟨t, ht, rfl⟩ := get_ref hx
            obtain ⟨e, he, hE⟩ := hts.get ht
            obtain ⟨de, eb, ef, ekk, er, ei⟩ := (hE.same (gr.up.trans gr.sub)).ins
            have hk : isLostE (l.getD i (.read 0 (0, 0))) = isLostE e := by rw [List.getD_eq_getElem?_getD, he]; rfl
            refine ⟨rfl, _, rfl, t, de, _, _, rfl, ei, rfl, rfl, _, rfl, ?_⟩
            show if decide (V.str (formOf e) = V.str sLost) = true then _ else _
            rw [form_lost]
            cases hle : isLostE e with
            | true => exact ifT rfl ⟨_, rfl, k1 (by rw [hk]; exact hle) _ G3 H3 (Grow.refl gr.sub) trivial⟩
            | false => exact ifF rfl (k2 (by rw [hk]; exact hle) H3 (Same.refl _))
          · intro G3 H3 us L3
            have hlen : us.length = (l.filter isLostE).length := by
              rw [L3.len, List.length_map, htl]
              exact filter_ix isLostE (.read 0 (0, 0)) l
            have s3 := s2.trans L3.gr.same
            have e3 := L3.at_
            refine ⟨_, rfl, D3, _, rfl, .inl (SqL.of e3), _, _, rfl, rfl, _, _, rfl, _, mMany, rfl, rfl, fun h5 => ?_, fun h5 => qm ?_ H3 s3⟩
            · have h5 : decide ((us.length : Int) ≤ 5) = true := h5
              have h5 := of_decide_eq_true h5
              have eD3 := L3.gr.same _ _ eD
              refine ⟨_, rfl, qok (by omega) (upd G1 D (.lst (ts.map V.ref))) H3 D ?_ hD ⟨by omega, ts, upd_same, hts.same (sm_upd L.gD)⟩⟩
              exact ((L.gr.loose L2.gr.same).loose L3.gr.same).keep eD3 hD L.gD
            · have h5 : decide ((us.length : Int) ≤ 5) = false := h5
              have h5 := of_decide_eq_false h5
              omega
      · -- one is none
        cases hA : allSome (entryV n) m with
        | none => rfl
        | some l =>
          exfalso
          have h : ∀ b ∈ (List.range ys.length).map (fun i => !decide (ys.getD i .non = .non)), b = true := by
            intro b hb
            obtain ⟨i, hi, rfl⟩ := List.mem_map.mp hb
            have hi := List.mem_range.mp hi
            have hyi : ys[i]? = some ys[i] := List.getElem?_eq_getElem hi
            obtain ⟨y, h4, h5⟩ := allSome_get hA (List.getElem?_eq_getElem (show i < m.length by omega))
            rcases hel i _ hyi m[i] (List.getElem?_eq_getElem (by omega)) with ⟨h, _⟩ | ⟨e, t, h1, h2, h3⟩
            · rw [h] at h4; cases h4
            · rw [List.getD_eq_getElem?_getD, hyi, Option.getD_some, h2]
              simp
          have hy : ((List.range ys.length).map (fun i => !decide (ys.getD i .non = .non))).all id = true := List.all_eq_true.mpr fun b hb => h b hb
          have hno : ((List.range ys.length).map (fun i => !decide (ys.getD i .non = .non))).all id = false := hno
          rw [hy] at hno
          cases hno
end
end Zr
end
section
set_option maxRecDepth 100000
set_option maxHeartbeats 2000000
/-! The defs of commits: rejected, fulfilled, answered, failed. -/
namespace Zr
open PySem PySem.Spec PyProof.Rows L2 L2H
open Zp (oi)
/-- the octets of a plain text of the specification -/
def oS (s : String) : RWire.Text := (R7289g.Spec.units s).map Rust.octetOf
theorem given_text (s : String) : Rust.given (R7289g.Spec.text s) = .text (oS s) := rfl
theorem oi_app (u v : RWire.Text) : oi (u ++ v) = oi u ++ oi v := Zp.oi_app u v
section
variable {H H' : Hp}
abbrev CmI (a : Adr) (H : Hp) (c : Addr) (m t l : Int) (o : V) : Prop := Ins H c a.commit (fCommit (.int m) (.int t) (.int l) o)
/-- a commit as the specification has it; its outcome is a piece that stays -/
def CmAt (a : Adr) (G H : Hp) (c : Addr) (cm : R7289g.Spec.Commit) : Prop := ∃ (m t l : Int) (o : V), CmI a H c m t l o ∧
  ((cm.waiting = true ∧ cm.outcome = none ∧ o = .non ∧ m = cm.most ∧ t = (cm.lost : Int) + 1 ∧ l = cm.lost ∧ cm.lost + 1 ≤ cm.most ∧ cm.most ≤ 10) ∨
   (cm.waiting = false ∧ ∃ oc p, cm.outcome = some oc ∧ o = .ref p ∧ PAt a G (Rust.given (R7289g.Spec.outcomePlain cm.outcome)) p))
theorem CmAt.keep {a : Adr} {G G' : Hp} {c : Addr} {cm : R7289g.Spec.Commit} (sG : Same G G') (hk : ∀ o, H c = some o → H' c = some o) (h : CmAt a G H c cm) : CmAt a G' H' c cm := by
  obtain ⟨m, t, l, o, ⟨dx, h1⟩, h2⟩ := h
  refine ⟨m, t, l, o, ⟨dx, hk _ h1⟩, ?_⟩
  rcases h2 with h2 | ⟨h3, oc, p, h4, h5, h6⟩
  · exact .inl h2
  · exact .inr ⟨h3, oc, p, h4, h5, PAt.same sG _ _ h6⟩
end
def tKinds (K : PySem.W.Frag) : TE := fun _ H Q => ∀ (d : Addr) (es : Array DictEntry), KInt K d es → (∃ u, findBy Value.isInt es 1 = some u ∧ RelV (.str "TypeError") u) → (∃ u, findBy Value.isInt es 2 = some u ∧ RelV (.str "RangeError") u) → Q (.ref d) H
theorem pe_kinds {X : Cx} {a : Adr} {pos : Pos} (T : Txt X.K X.mg a) (hg : Gl X "KINDS" := by rfl) : PE X (.Name "KINDS" pos) (tKinds X.K) := by
  obtain ⟨d, es, h1, h2, h3, h4⟩ := T.kinds
  exact ⟨fun pins s σ H Q I h => (pe_glob (v := .ref d) hg h1 rfl).run pins s σ H Q I (h d es h2 h3 h4)⟩
section
variable {P : Program} {w : World} {K : PySem.W.Frag} {mg : Str → Option Value} {base : Heap} {a : Adr}
theorem m_Commit (T : Txt K mg a) : MakW P w K mg base 1 "Commit" a.commit (spIn 1 a.commit fun us => fCommit (us.getD 0 .non) (.int 1) (.int 0) .non) := by
  refine makW T.c_Commit sc_CommitInit lenIn fun f cl pn cdv A outer s H vs Q E hr hw h => ?_
  obtain ⟨p, dx, us, hl, rfl, hp, q⟩ := h
  match us, hl with
  | [k], _ =>
    refine ⟨_, (pss_cons (ps_f T.c_Commit.cl T.n_Commit_most (pv 0) (pv 1))
    (pss_cons (ps_f T.c_Commit.cl T.n_Commit_attempt (pv 0) pe_int)
    (pss_cons (ps_f T.c_Commit.cl T.n_Commit_lost (pv 0) pe_int)
    (pss_one (ps_f T.c_Commit.cl T.n_Commit_outcome (pv 0) pe_non))))), ?_⟩
    refine ⟨_, rfl, _, rfl, p, dx, _, rfl, hp, rfl, _, rfl, p, dx, _, rfl, upd_same, rfl, _, rfl, p, dx, _, rfl, upd_same, rfl, _, rfl, p, dx, _, rfl, upd_same, rfl, ?_⟩
    rw [upd_upd, upd_upd, upd_upd]
    exact q
/-- a piece is kept; then c alone changes -/
theorem Grow.thenAt {G H G' H' : Hp} {c : Addr} {o : HO} (x : Grow G H G' H') (g : G c = none) (h : H c ≠ none) : GrowB c G H G' (upd H' c o) := by
  have g' := x.new c g h
  exact ⟨x.up, fun b u e => by rw [upd_ne (ne_of_none e g')]; exact x.sub b u e, (But.same x.same).trans But.upd, x.new⟩
def kname (k : Int) : String := if k = 1 then "TypeError" else "RangeError"
def spReject (a : Adr) : Sp := sp3 fun x y z H Q E => ∃ (c : Addr) (k : Int) (m : Str) (u : RWire.Text) (G : Hp) (mm t l : Int) (o : V), x = .ref c ∧ y = .int k ∧ z = .str m ∧ (k = 1 ∨ k = 2) ∧ CmI a H c mm t l o ∧ m.cps.size ≤ 1000 ∧ cI m = oi u ∧ Same G H ∧ G c = none ∧
  ∀ G' H' p, GrowB c G H G' H' → CmI a H' c mm t l (.ref p) → PAt a G' (.list [.text (oS "rejected"), .text (oS (kname k)), .text u]) p → Q .non H'
theorem c_rejected : cI ("rejected" : Str) = oi (oS "rejected") := by decide +kernel
theorem c_fulfilled : cI ("fulfilled" : Str) = oi (oS "fulfilled") := by decide +kernel
theorem c_attempts : cI ("attempts" : Str) = oi (oS "attempts") := by decide +kernel
theorem c_lost : cI ("lost" : Str) = oi (oS "lost") := by decide +kernel
theorem c_kname1 : cI ("TypeError" : Str) = oi (oS "TypeError") := by decide +kernel
theorem c_kname2 : cI ("RangeError" : Str) = oi (oS "RangeError") := by decide +kernel
/-- KINDS[k] -/
theorem ix_kinds {K : PySem.W.Frag} {d : Addr} {es : Array DictEntry} {k : Int} {H : Hp} {Q : VK} (hk : KInt K d es) (h1 : ∃ u, findBy Value.isInt es 1 = some u ∧ RelV (.str "TypeError") u) (h2 : ∃ u, findBy Value.isInt es 2 = some u ∧ RelV (.str "RangeError") u) (k12 : k = 1 ∨ k = 2)
    (q : ∀ z : Str, cI z = oi (oS (kname k)) → z.cps.size ≤ 1000 → Q (.str z) H) : rIxI K (.ref d) (.int k) H Q := by
  rcases k12 with rfl | rfl
  · obtain ⟨u, e, r⟩ := h1
    exact ⟨d, 1, es, u, _, rfl, rfl, hk, e, r, q _ c_kname1 (by decide +kernel)⟩
  · obtain ⟨u, e, r⟩ := h2
    exact ⟨d, 2, es, u, _, rfl, rfl, hk, e, r, q _ c_kname2 (by decide +kernel)⟩
/-- a list piece of kept pieces -/
theorem grow_row {G H G1 H1 H2 : Hp} {l p : Addr} {vs : List RWire.Value} {ps : List Addr} (x : Grow G H G1 H1) (al : PAll a G1 vs ps) (hl : H1 l = none) (e : H2 l = some (.lst (ps.map V.ref))) (s : Same H1 H2) {H3 : Hp} (hp : H2 p = none) (s3 : Same H2 H3) (e3 : Pc a H3 p 7 (.ref l)) :
    ∃ G3, Grow G H G3 H3 ∧ Same G1 G3 ∧ PAt a G3 (.list vs) p := by
  obtain ⟨G2, x2, y2, z2⟩ := grow_obj x hl s e
  obtain ⟨G3, x3, y3, z3⟩ := grow_pc x2 hp s3 e3
  exact ⟨G3, x3, y2.trans y3, l, ps, z3, y3 _ _ z2, PAll.same (y2.trans y3) _ _ al⟩
theorem c_reject (T : Txt K mg a) : CalW P w K mg base 4 "reject" (spReject a) := by
  refine calW T.d_reject sc_reject len3 fun f cl pn cdv A outer s H vs Q E hr hw h => ?_
  obtain ⟨_, _, _, rfl, c, k, m, u, G, mm, t, l, o, rfl, rfl, rfl, k12, hc, hm, hu, sG, gc, q⟩ := h
  refine ⟨_, (pss_one (ps_f T.c_Commit.cl T.n_Commit_outcome (pv 0) (pe_cw (c_row T) hr (by decide) hw rfl (pa_cons (pe_lst (pa_cons (pe_cw (c_text T) hr (by decide) hw rfl (pa_cons pe_str pa_nil)) (pa_cons (pe_cw (c_text T) hr (by decide) hw rfl (pa_cons (pe_ix ix_kint (pe_kinds T) (pv 1) (fun _ _ => rfl)) pa_nil)) (pa_cons (pe_cw (c_text T) hr (by decide) hw rfl (pa_cons (pv 2) pa_nil)) pa_nil)))) pa_nil)))), ?_⟩
  refine ⟨_, rfl, _, _, G, rfl, by decide +kernel, c_rejected, sG, fun G1 H1 p1 x1 n1 a1 d es hK hk1 hk2 => ⟨_, rfl, ix_kinds hK hk1 hk2 k12 fun z hz hz2 => ⟨_, rfl, z, _, G1, rfl, hz2, hz, x1.sub, fun G2 H2 p2 x2 n2 a2 => ⟨_, rfl, _, rfl, m, u, G2, rfl, hm, hu, x2.sub, fun G3 H3 p3 x3 n3 a3 => ⟨fit rfl, fun lr nl => ⟨_, rfl, lr, rfl, fun H5 p5 n5 s5 e5 => ?_⟩⟩⟩⟩⟩⟩
  have x := (x1.trans x2).trans x3
  obtain ⟨G5, x5, y5, z5⟩ := grow_row (vs := [.text (oS "rejected"), .text (oS (kname k)), .text u]) (ps := [p1, p2, p3]) x ⟨p1, [p2, p3], rfl, PAt.same (x2.up.trans x3.up) _ _ a1, p2, [p3], rfl, PAt.same x3.up _ _ a2, p3, [], rfl, a3, rfl⟩ nl upd_same (sm_upd nl) n5 s5 e5
  obtain ⟨dx, e⟩ := hc
  have e' := x5.same _ _ e
  refine ⟨_, rfl, c, dx, _, rfl, e', rfl, q G5 _ p5 (x5.thenAt gc (by rw [e]; simp)) ⟨dx, upd_same⟩ z5⟩
theorem c_does_wait (T : Txt K mg a) : Cal P w K mg base 1 "does_wait" (sp1 fun x H Q E => ∃ (c : Addr) (m t l : Int) (o : V), x = .ref c ∧ CmI a H c m t l o ∧ Q (.bl (decide (o = .non))) H) := by
  refine cal T.d_does_wait sc_does_wait len1 fun f cdv A outer s H vs Q E hr h => ?_
  obtain ⟨_, rfl, c, m, t, l, o, rfl, ⟨dx, e⟩, q⟩ := h
  refine ⟨_, (pss_one (ps_ret (pe_cmpR op_isN (pe_f T.c_Commit.cl T.n_Commit_outcome (pv 0)) pe_non (nomark _)))), ?_⟩
  exact ⟨_, rfl, c, dx, _, _, rfl, e, rfl, rfl, q⟩
def spFulfil (a : Adr) : Sp := sp1 fun x H Q E => ∃ (c : Addr) (G : Hp) (mm t l : Int) (o : V), x = .ref c ∧ CmI a H c mm t l o ∧ Same G H ∧ G c = none ∧
  ∀ G' H' p, GrowB c G H G' H' → CmI a H' c mm t l (.ref p) → PAt a G' (.list [.text (oS "fulfilled"), .record [(oS "attempts", .int t), (oS "lost", .int l)]]) p → Q .non H'
theorem c_fulfil (T : Txt K mg a) : Cal P w K mg base 4 "fulfil" (spFulfil a) := by
  refine cal T.d_fulfil sc_fulfil len1 fun f cdv A outer s H vs Q E hr h => ?_
  obtain ⟨_, rfl, c, G, mm, t, l, o, rfl, ⟨dx, e⟩, sG, gc, q⟩ := h
  refine ⟨_, (pss_cons (ps_set (i := 1) sc_fulfil.nd rfl (Or.inl rfl) (pe_lst (pa_cons (pe_tup (pa_cons pe_str (pa_cons (pe_c (c_number T) hr (by decide) rfl (pa_cons (pe_f T.c_Commit.cl T.n_Commit_attempt (pv 0)) pa_nil)) pa_nil))) (pa_cons (pe_tup (pa_cons pe_str (pa_cons (pe_c (c_number T) hr (by decide) rfl (pa_cons (pe_f T.c_Commit.cl T.n_Commit_lost (pv 0)) pa_nil)) pa_nil))) pa_nil))))
    (pss_one (ps_f T.c_Commit.cl T.n_Commit_outcome (pv 0) (pe_cw (c_row T) (roomH_of hr) (by decide) (.inl rfl) rfl (pa_cons (pe_lst (pa_cons (pe_cw (c_text T) (roomH_of hr) (by decide) (.inl rfl) rfl (pa_cons pe_str pa_nil)) (pa_cons (pe_c (c_record T) hr (by decide) rfl (pa_cons (pv 1) pa_nil)) pa_nil))) pa_nil))))), ?_⟩
  refine ⟨_, rfl, c, dx, _, _, rfl, e, rfl, _, rfl, t, rfl, fun H1 p1 n1 s1 e1 => ⟨fit rfl, fun t1 nt1 => ?_⟩⟩
  have s2 := s1.trans (sm_upd (o := .tup [.str "attempts", .ref p1]) nt1)
  refine ⟨_, rfl, c, dx, _, _, rfl, s2 _ _ e, rfl, _, rfl, l, rfl, fun H3 p3 n3 s3 e3 => ⟨fit rfl, fun t3 nt3 => ⟨fit rfl, fun lp nlp => ?_⟩⟩⟩
  have s34 := (s3.trans (sm_upd (o := .tup [.str "lost", .ref p3]) nt3)).trans (sm_upd (o := .lst [.ref t1, .ref t3]) nlp)
  have s4 := s2.trans s34
  obtain ⟨G1, x1, y1, z1⟩ := grow_pc (Grow.refl sG) n1 s1 e1
  obtain ⟨G3, x3, y3, z3⟩ := grow_pc (x1.loose (sm_upd (o := .tup [.str "attempts", .ref p1]) nt1)) n3 s3 e3
  have x4 := x3.loose ((sm_upd (o := .tup [.str "lost", .ref p3]) nt3).trans (sm_upd (o := .lst [.ref t1, .ref t3]) nlp))
  refine ⟨_, rfl, _, _, G3, rfl, by decide +kernel, c_fulfilled, x4.sub, fun G5 H5 p5 x5 n5 a5 => ⟨_, rfl, _, rfl, lp, [t1, t3], [(oS "attempts", .int t), (oS "lost", .int l)], G5, rfl, x5.same _ _ upd_same, rfl, (by show 2 ≤ 1000; decide), x5.sub, fun i tt ee h1 h2 => ?_, fun G6 H6 p6 x6 n6 a6 => ⟨fit rfl, fun lr nl => ⟨_, rfl, lr, rfl, fun H7 p7 n7 s7 e7 => ?_⟩⟩⟩⟩
  · match i, h1, h2 with
    | 0, h1, h2 =>
      cases h1
      cases h2
      refine ⟨_, p1, x5.same _ _ (s34 _ _ upd_same), c_attempts, by decide +kernel, ?_⟩
      exact Ins.same ((y3.trans x5.up)) z1
    | 1, h1, h2 =>
      cases h1
      cases h2
      refine ⟨_, p3, x5.same _ _ (sm_upd nlp _ _ upd_same), c_lost, by decide +kernel, ?_⟩
      exact Ins.same x5.up z3
    | _ + 2, h1, _ => simp at h1
  · have x := (x4.trans x5).trans x6
    obtain ⟨G7, x7, y7, z7⟩ := grow_row (vs := [.text (oS "fulfilled"), .record [(oS "attempts", .int t), (oS "lost", .int l)]]) (ps := [p5, p6]) x ⟨p5, [p6], rfl, PAt.same x6.up _ _ a5, p6, [], rfl, a6, rfl⟩ nl upd_same (sm_upd nl) n7 s7 e7
    exact ⟨_, rfl, c, dx, _, rfl, x7.same _ _ e, rfl, q G7 _ p7 (x7.thenAt gc (by rw [e]; simp)) ⟨dx, upd_same⟩ z7⟩
end
end Zr
end
section
set_option maxRecDepth 100000
set_option maxHeartbeats 2000000
/-! The defs of commits: answers, failures, replies. -/
namespace Zr
open PySem PySem.Spec PyProof.Rows L2 L2H
open Zp (oi)
open R7289g.Spec (Reply replyOf)
def mSend (n : Nat) : Str := ((Str.empty ++ ("send(" : Str)) ++ (Str.ofString (toString (n : Int)))) ++ (") must return true or false" : Str)
def mDoubt (n : Nat) : Str := ((Str.empty ++ ("in doubt after " : Str)) ++ (Str.ofString (toString (n : Int)))) ++ (" attempts" : Str)
def uSend (n : Nat) : String := "send(" ++ toString n ++ ") must return true or false"
def uDoubt (n : Nat) : String := "in doubt after " ++ toString n ++ " attempts"
theorem fs_ok : ∀ n : Fin 11, cI (mSend n.val) = oi (oS (uSend n.val)) ∧ cI (mDoubt n.val) = oi (oS (uDoubt n.val)) ∧ (mSend n.val).cps.size ≤ 1000 ∧ (mDoubt n.val).cps.size ≤ 1000 ∧
    (((Str.empty ++ ("send(" : Str)) ++ (Str.ofString (toString (n.val : Int)))).length ≤ 1000 ∧ ((Str.empty ++ ("in doubt after " : Str)) ++ (Str.ofString (toString (n.val : Int)))).length ≤ 1000) ∧ (n.val : Int).natAbs.log2 < 1920 := by decide +kernel
section
variable {P : Program} {w : World} {K : PySem.W.Frag} {mg : Str → Option Value} {base : Heap} {a : Adr}
def spAnswer (a : Adr) : Sp := sp2 fun x y H Q E => ∃ (c rp : Addr) (G : Hp) (cm : R7289g.Spec.Commit) (v : RWire.Value), x = .ref c ∧ y = .ref rp ∧ CmAt a G H c cm ∧ cm.waiting = true ∧ PAt a H v rp ∧ Same G H ∧ G c = none ∧
  ∀ G' H', GrowB c G H G' H' → CmAt a G' H' c (cm.receive (.value (Rust.taken v))) → Q .non H'
theorem fit2 {n : Nat} (h : n ≤ 1000) : n ≤ sizeLine := by rw [sizeLine_eq]; omega
theorem knd_true {v : RWire.Value} (h : knd v = 3) : v = .bool true := by
  cases v with
  | bool b => cases b with
    | true => rfl
    | false => cases h
  | _ => cases h
theorem knd_false {v : RWire.Value} (h : knd v = 2) : v = .bool false := by
  cases v with
  | bool b => cases b with
    | true => cases h
    | false => rfl
  | _ => cases h
theorem knd_null {v : RWire.Value} (h : knd v = 1) : v = .null := by
  cases v with
  | null => rfl
  | bool b => cases b <;> cases h
  | _ => cases h
theorem c_answer_commit (T : Txt K mg a) : Cal P w K mg base 5 "answer_commit" (spAnswer a) := by
  refine cal T.d_answer_commit sc_answer_commit len2 fun f cdv A outer s H vs Q E hr h => ?_
  obtain ⟨_, _, rfl, c, rp, G, cm, v, rfl, rfl, hc, hwt, hp, sG, gc, q⟩ := h
  refine ⟨_, (pss_one (ps_if (PW.pt (pw_or (pt_cmpR op_eq (pe_f T.c_Piece.cl T.n_Piece_kind (pv 1)) (pe_gc rfl T.k_TRUE) (nomark _)) (pw_or1 (PW.pt (pw_and (pt_cmpR op_eq (pe_f T.c_Piece.cl T.n_Piece_kind (pv 1)) (pe_gc rfl T.k_FALSE) (nomark _)) (pw_and1 (pt_cmpR op_gt (pe_f T.c_Commit.cl T.n_Commit_lost (pv 0)) pe_int (nomark _)))))))) (pss_one (ps_expr (pe_c (c_fulfil T) hr (by decide) rfl (pa_cons (pv 0) pa_nil)))) (pss_one (ps_if (pt_cmpR op_eq (pe_f T.c_Piece.cl T.n_Piece_kind (pv 1)) (pe_gc rfl T.k_FALSE) (nomark _)) (pss_one (ps_expr (pe_cw (c_reject T) (roomH_of hr) (by decide) (.inl rfl) rfl (pa_cons (pv 0) (pa_cons pe_int (pa_cons pe_str pa_nil)))))) (pss_one (ps_expr (pe_cw (c_reject T) (roomH_of hr) (by decide) (.inl rfl) rfl (pa_cons (pv 0) (pa_cons pe_int (pa_cons (pe_joined (PJ.cons pe_str (PJ.cons (pe_fmt (pe_f T.c_Commit.cl T.n_Commit_attempt (pv 0))) (PJ.cons pe_str PJ.nil)))) pa_nil)))))))))), ?_⟩
  obtain ⟨m, t, l, o, ⟨dx, e⟩, h2⟩ := hc
  rcases h2 with ⟨_, hon, ho, hm, ht, hl, hle, h10⟩ | ⟨hw, _⟩
  rotate_left
  · rw [hwt] at hw; cases hw
  obtain ⟨cc, dk, ek⟩ := pat_kind hp
  have ful : cm.receive (.value (Rust.taken v)) = cm.settle (.fulfilled (R7289g.Spec.attemptsOf (cm.lost + 1) cm.lost)) → ∀ G' H' p, GrowB c G H G' H' → CmI a H' c m t l (.ref p) → PAt a G' (.list [.text (oS "fulfilled"), .record [(oS "attempts", .int t), (oS "lost", .int l)]]) p → Q .non H' := by
    intro er G' H' p x hi hP
    refine q G' H' x ?_
    rw [er]
    refine ⟨m, t, l, .ref p, hi, .inr ⟨rfl, _, p, rfl, rfl, ?_⟩⟩
    rw [ht, hl] at hP
    exact hP
  have rej : ∀ (k : Int) (u : String) (er : R7289g.Spec.Err), cm.receive (.value (Rust.taken v)) = cm.settle (.error er none) → er.msg = R7289g.Spec.units u → R7289g.Spec.className er.cls = kname k → ∀ G' H' p, GrowB c G H G' H' → CmI a H' c m t l (.ref p) → PAt a G' (.list [.text (oS "rejected"), .text (oS (kname k)), .text (oS u)]) p → Q .non H' := by
    intro k u er e1 e2 e3 G' H' p x hi hP
    refine q G' H' x ?_
    rw [e1]
    refine ⟨m, t, l, .ref p, hi, .inr ⟨rfl, _, p, rfl, rfl, ?_⟩⟩
    have e4 : Rust.given (R7289g.Spec.outcomePlain (cm.settle (.error er none)).outcome) = .list [.text (oS "rejected"), .text (oS (R7289g.Spec.className er.cls)), .text (er.msg.map Rust.octetOf)] := rfl
    rw [e4, e3, e2]
    exact hP
  have rcv : ∀ r, cm.receive r = match r with
    | .value (.bool true) => cm.settle (.fulfilled (R7289g.Spec.attemptsOf (cm.lost + 1) cm.lost))
    | .value (.bool false) => if cm.lost = 0 then cm.settle (.error R7289g.Spec.conditionsFail none) else cm.settle (.fulfilled (R7289g.Spec.attemptsOf (cm.lost + 1) cm.lost))
    | .value _ => cm.settle (.error (R7289g.Spec.badAnswer (cm.lost + 1)) none)
    | .failed x => if cm.most ≤ cm.lost + 1 then { cm with lost := cm.lost + 1, waiting := false, outcome := some (.error (R7289g.Spec.stillInDoubt (cm.lost + 1)) (some x)) } else { cm with lost := cm.lost + 1 } := by
    intro r
    unfold R7289g.Spec.Commit.receive
    rw [hwt]
    rfl
  refine ⟨_, rfl, rp, dk, _, _, rfl, ek, rfl, rfl, _, rfl, ?_⟩
  by_cases h3 : knd v = 3
  · have hv := knd_true h3
    subst hv
    exact ifT (eqI h3) (ifT rfl ⟨_, rfl, _, rfl, c, G, m, t, l, o, rfl, ⟨dx, e⟩, sG, gc, ful (rcv _)⟩)
  · refine ifF (neI h3) ⟨_, rfl, rp, dk, _, _, rfl, ek, rfl, rfl, _, rfl, ?_⟩
    by_cases h2 : knd v = 2
    · have hv := knd_false h2
      subst hv
      refine ifT (eqI h2) ⟨_, rfl, c, dx, _, _, rfl, e, rfl, _, _, rfl, rfl, _, rfl, ?_⟩
      by_cases h0 : cm.lost = 0
      · refine ifF (decide_eq_false (by rw [hl, h0]; decide)) ⟨_, rfl, rp, dk, _, _, rfl, ek, rfl, rfl, _, rfl, ifT (eqI h2) ⟨_, rfl, _, _, _, rfl, c, 2, _, oS "the conditions do not hold", G, m, t, l, o, rfl, rfl, rfl, .inr rfl, ⟨dx, e⟩, by decide +kernel, by decide +kernel, sG, gc, rej 2 "the conditions do not hold" R7289g.Spec.conditionsFail (by rw [rcv]; show (if cm.lost = 0 then _ else _) = _; rw [if_pos h0]) rfl rfl⟩⟩
      · refine ifT (decide_eq_true (by omega)) ⟨_, rfl, _, rfl, c, G, m, t, l, o, rfl, ⟨dx, e⟩, sG, gc, ful (by rw [rcv]; show (if cm.lost = 0 then _ else _) = _; rw [if_neg h0])⟩
    · refine ifF (neI h2) (ifF rfl ⟨_, rfl, rp, dk, _, _, rfl, ek, rfl, rfl, _, rfl, ifF (neI h2) ?_⟩)
      have hk := fs_ok ⟨cm.lost + 1, by omega⟩
      obtain ⟨k1, k2, k3, k4, ⟨k5, k6⟩, k7⟩ := hk
      have et : t = ((cm.lost + 1 : Nat) : Int) := by rw [ht]; rfl
      subst et
      refine ⟨_, rfl, _, rfl, by decide +kernel, _, rfl, c, dx, _, _, rfl, e, rfl, .inr ⟨_, rfl, k7, _, rfl, fit2 k5, _, rfl, fit2 k3, ?_⟩⟩
      refine ⟨_, _, _, rfl, c, 1, mSend (cm.lost + 1), oS (uSend (cm.lost + 1)), G, m, _, l, o, rfl, rfl, rfl, .inl rfl, ⟨dx, e⟩, k3, k1, sG, gc, rej 1 (uSend (cm.lost + 1)) (R7289g.Spec.badAnswer (cm.lost + 1)) ?_ rfl rfl⟩
      rw [rcv]
      cases v with
      | bool b => cases b with
        | true => exact absurd rfl h3
        | false => exact absurd rfl h2
      | _ => rfl
end
end Zr
end
section
set_option maxRecDepth 100000
set_option maxHeartbeats 2000000
/-! The defs of commits: failures, replies, outcomes. -/
namespace Zr
open PySem PySem.Spec PyProof.Rows L2 L2H
open Zp (oi)
open R7289g.Spec (Reply replyOf)
theorem oct_unit (o : UInt8) : Rust.octetOf (Rust.unitOf o) = o := by
  show UInt8.ofNat (UInt16.ofNat o.toNat).toNat = o
  have h : o.toNat < 256 := o.toNat_lt
  have e : (UInt16.ofNat o.toNat).toNat = o.toNat := by
    show o.toNat % 65536 = o.toNat
    omega
  rw [e]
  exact UInt8.ofNat_toNat
theorem octs_units : ∀ u : RWire.Text, (u.map Rust.unitOf).map Rust.octetOf = u
  | [] => rfl
  | o :: r => by
    show Rust.octetOf (Rust.unitOf o) :: (r.map Rust.unitOf).map Rust.octetOf = o :: r
    rw [oct_unit, octs_units r]
theorem givenText_eq (u : R7289g.Spec.Units) : Rust.givenText u = .text (u.map Rust.octetOf) := rfl
section
variable {a : Adr} {G : Hp}
mutual
theorem given_taken : ∀ (v : RWire.Value) (p : Addr), PAt a G v p → Rust.given (Rust.taken v) = v
  | .nothing, _, _ => rfl
  | .null, _, _ => rfl
  | .bool _, _, _ => rfl
  | .int _, _, _ => rfl
  | .text u, _, _ => by
    show Rust.givenText (u.map Rust.unitOf) = _
    rw [givenText_eq, octs_units]
  | .list vs, _, ⟨l, ps, h1, h2, h3⟩ => by
    show RWire.Value.list (Rust.givenAll (Rust.takenAll vs)) = _
    rw [given_takenAll vs ps h3]
  | .record es, _, ⟨l, ts, h1, h2, h3⟩ => by
    show RWire.Value.record (Rust.givenFields (Rust.takenFields es)) = _
    rw [given_takenFields es ts h3]
  | .big _, _, h => h.elim
  | .octets _, _, h => h.elim
  | .wide _, _, h => h.elim
theorem given_takenAll : ∀ (vs : List RWire.Value) (ps : List Addr), PAll a G vs ps → Rust.givenAll (Rust.takenAll vs) = vs
  | [], _, _ => rfl
  | v :: vs, _, ⟨q, r, e, h1, h2⟩ => by
    show Rust.given (Rust.taken v) :: Rust.givenAll (Rust.takenAll vs) = _
    rw [given_taken v q h1, given_takenAll vs r h2]
theorem given_takenFields : ∀ (es : List (RWire.Text × RWire.Value)) (ts : List Addr), PEnts a G es ts → Rust.givenFields (Rust.takenFields es) = es
  | [], _, _ => rfl
  | (n, v) :: es, _, ⟨t, nn, q, r, e1, h1, h2, h3, h4⟩ => by
    show ((n.map Rust.unitOf).map Rust.octetOf, Rust.given (Rust.taken v)) :: Rust.givenFields (Rust.takenFields es) = _
    rw [octs_units, given_taken v q h3, given_takenFields es r h4]
end
end
theorem rcv_failed {cm : R7289g.Spec.Commit} (hw : cm.waiting = true) (x : R7289g.Spec.Plain) : cm.receive (.failed x) = if cm.most ≤ cm.lost + 1 then { cm with lost := cm.lost + 1, waiting := false, outcome := some (.error (R7289g.Spec.stillInDoubt (cm.lost + 1)) (some x)) } else { cm with lost := cm.lost + 1 } := by
  unfold R7289g.Spec.Commit.receive
  rw [hw]
  rfl
theorem run_snoc : ∀ (rs : List Reply) (cm : R7289g.Spec.Commit) (r : Reply), cm.run (rs ++ [r]) = if (cm.run rs).outcome.isSome then cm.run rs else (cm.run rs).receive r
  | [], cm, r => by
    show (if cm.outcome.isSome then cm else R7289g.Spec.Commit.run (cm.receive r) []) = _
    rfl
  | q :: rs, cm, r => by
    show (if cm.outcome.isSome then cm else R7289g.Spec.Commit.run (cm.receive q) (rs ++ [r])) = _
    have e : cm.run (q :: rs) = if cm.outcome.isSome then cm else R7289g.Spec.Commit.run (cm.receive q) rs := rfl
    rw [e]
    by_cases h : cm.outcome.isSome = true
    · rw [if_pos h, if_pos h, if_pos h]
    · rw [if_neg h, if_neg h, run_snoc rs (cm.receive q) r]
section
variable {P : Program} {w : World} {K : PySem.W.Frag} {mg : Str → Option Value} {base : Heap} {a : Adr}
def spFail (a : Adr) : Sp := sp2 fun x y H Q E => ∃ (c rp : Addr) (G : Hp) (cm : R7289g.Spec.Commit) (v : RWire.Value), x = .ref c ∧ y = .ref rp ∧ CmAt a G H c cm ∧ cm.waiting = true ∧ PAt a G v rp ∧ Same G H ∧ G c = none ∧
  ∀ G' H', GrowB c G H G' H' → CmAt a G' H' c (cm.receive (.failed (Rust.taken v))) → Q .non H'
theorem c_fail_commit (T : Txt K mg a) : Cal P w K mg base 4 "fail_commit" (spFail a) := by
  refine cal T.d_fail_commit sc_fail_commit len2 fun f cdv A outer s H vs Q E hr h => ?_
  obtain ⟨_, _, rfl, c, rp, G, cm, v, rfl, rfl, hc, hwt, hp, sG, gc, q⟩ := h
  refine ⟨_, (pss_cons (ps_fa T.c_Commit.cl T.n_Commit_lost (pv 0) pe_int)
    (pss_one (ps_if (pt_cmpR op_eq (pe_f T.c_Commit.cl T.n_Commit_attempt (pv 0)) (pe_f T.c_Commit.cl T.n_Commit_most (pv 0)) (nomark _)) (pss_cons (ps_set (i := 2) sc_fail_commit.nd rfl (Or.inl rfl) (pe_cw (c_text T) (roomH_of hr) (by decide) (.inl rfl) rfl (pa_cons (pe_joined (PJ.cons pe_str (PJ.cons (pe_fmt (pe_f T.c_Commit.cl T.n_Commit_attempt (pv 0))) (PJ.cons pe_str PJ.nil)))) pa_nil)))
    (pss_one (ps_f T.c_Commit.cl T.n_Commit_outcome (pv 0) (pe_cw (c_row T) (roomH_of hr) (by decide) (.inl rfl) rfl (pa_cons (pe_lst (pa_cons (pe_cw (c_text T) (roomH_of hr) (by decide) (.inl rfl) rfl (pa_cons pe_str pa_nil)) (pa_cons (pe_cw (c_text T) (roomH_of hr) (by decide) (.inl rfl) rfl (pa_cons (pe_ix ix_kint (pe_kinds T) pe_int (fun _ _ => rfl)) pa_nil)) (pa_cons (pv 2) (pa_cons (pv 1) pa_nil))))) pa_nil))))) (pss_one (ps_fa T.c_Commit.cl T.n_Commit_attempt (pv 0) pe_int))))), ?_⟩
  obtain ⟨m, t, l, o, ⟨dx, e⟩, h2⟩ := hc
  rcases h2 with ⟨_, hon, ho, hm, ht, hl, hle, h10⟩ | ⟨hw, _⟩
  rotate_left
  · rw [hwt] at hw; cases hw
  rw [rcv_failed hwt] at q
  refine ⟨_, rfl, c, dx, _, _, rfl, e, rfl, _, dx, _, rfl, e, rfl, ?_⟩
  have x0 : GrowB c G H G (upd H c (.ins a.commit dx (fCommit (.int m) (.int t) (.int (l + 1)) o))) := GrowB.moved sG But.upd gc
  have e1 : (upd H c (.ins a.commit dx (fCommit (.int m) (.int t) (.int (l + 1)) o))) c = some (.ins a.commit dx (fCommit (.int m) (.int t) (.int (l + 1)) o)) := upd_same
  have hf : putF ("lost" : Str) (V.int (l + 1)) (fCommit (V.int m) (V.int t) (V.int l) o) = fCommit (.int m) (.int t) (.int (l + 1)) o := rfl
  rw [hf]
  generalize upd H c (.ins a.commit dx (fCommit (.int m) (.int t) (.int (l + 1)) o)) = H1 at x0 e1 ⊢
  have nz : H1 c ≠ none := by rw [e1]; simp
  refine ⟨_, rfl, c, dx, _, _, rfl, e1, rfl, _, rfl, c, dx, _, _, rfl, e1, rfl, rfl, _, rfl, ?_⟩
  have hdec : decide (V.int t = V.int m) = decide (cm.most ≤ cm.lost + 1) := by
    rw [decI]
    have : (t = m) ↔ (cm.most ≤ cm.lost + 1) := by omega
    exact decide_eq_decide.mpr this
  rw [hdec]
  by_cases hk : cm.most ≤ cm.lost + 1
  · rw [if_pos hk] at q
    refine ifT (decide_eq_true hk) ?_
    obtain ⟨k1, k2, k3, k4, ⟨k5, k6⟩, k7⟩ := fs_ok ⟨cm.lost + 1, by omega⟩
    have et : t = ((cm.lost + 1 : Nat) : Int) := by rw [ht]; rfl
    refine ⟨_, rfl, by decide +kernel, _, rfl, c, dx, _, _, rfl, e1, rfl, .inr ⟨_, rfl, by rw [et]; exact k7, _, rfl, by rw [et]; exact fit2 k6, _, rfl, by rw [et]; exact fit2 k4, ?_⟩⟩
    rw [et]
    refine ⟨_, rfl, mDoubt (cm.lost + 1), oS (uDoubt (cm.lost + 1)), G, rfl, k4, k2, x0.sub, fun G2 H2 p2 x2 n2 a2 => ?_⟩
    refine ⟨_, rfl, _, _, G2, rfl, by decide +kernel, c_rejected, x2.sub, fun G3 H3 p3 x3 n3 a3 d es hK hk1 hk2 => ix_kinds hK hk1 hk2 (.inr rfl) fun z hz hz2 => ⟨_, rfl, z, _, G3, rfl, hz2, hz, x3.sub, fun G4 H4 p4 x4 n4 a4 => ⟨_, rfl, _, rfl, fit rfl, fun lr nl => ⟨_, rfl, lr, rfl, fun H6 p6 n6 s6 e6 => ?_⟩⟩⟩⟩
    have x := (x2.trans x3).trans x4
    obtain ⟨G6, x6, y6, z6⟩ := grow_row (vs := [.text (oS "rejected"), .text (oS (kname 2)), .text (oS (uDoubt (cm.lost + 1))), v]) (ps := [p3, p4, p2, rp]) x
      ⟨p3, [p4, p2, rp], rfl, PAt.same x4.up _ _ a3, p4, [p2, rp], rfl, a4, p2, [rp], rfl, PAt.same (x3.up.trans x4.up) _ _ a2, rp, [], rfl, PAt.same x.up _ _ hp, rfl⟩ nl upd_same (sm_upd nl) n6 s6 e6
    refine ⟨_, rfl, c, dx, _, rfl, x6.same _ _ e1, rfl, q G6 _ (x0.trans (x6.thenAt gc nz) nz) ?_⟩
    refine ⟨m, t, l + 1, .ref p6, ⟨dx, upd_same⟩, .inr ⟨rfl, _, p6, rfl, rfl, ?_⟩⟩
    have e4 : Rust.given (R7289g.Spec.outcomePlain (some (.error (R7289g.Spec.stillInDoubt (cm.lost + 1)) (some (Rust.taken v))))) = .list [.text (oS "rejected"), .text (oS "RangeError"), .text (oS (uDoubt (cm.lost + 1))), Rust.given (Rust.taken v)] := rfl
    show PAt a G6 (Rust.given (R7289g.Spec.outcomePlain (some (.error (R7289g.Spec.stillInDoubt (cm.lost + 1)) (some (Rust.taken v)))))) p6
    rw [e4, given_taken v rp hp]
    exact z6
  · rw [if_neg hk] at q
    refine ifF (decide_eq_false hk) ⟨_, rfl, c, dx, _, _, rfl, e1, rfl, _, dx, _, rfl, e1, rfl, ?_⟩
    refine q G _ (x0.trans (GrowB.moved x0.sub But.upd gc) nz) ⟨m, t + 1, l + 1, o, ⟨dx, upd_same⟩, .inl ⟨hwt, hon, ho, hm, ?_, ?_, ?_, h10⟩⟩
    · show t + 1 = ((cm.lost + 1 : Nat) : Int) + 1
      omega
    · show l + 1 = ((cm.lost + 1 : Nat) : Int)
      omega
    · show cm.lost + 1 + 1 ≤ cm.most
      omega
theorem c_stop : cI ("stop" : Str) = oi (oS "stop") := by decide +kernel
theorem taken_stop : Rust.taken (.text (oS "stop")) = R7289g.Spec.text "stop" := by
  show R7289g.Spec.Plain.str _ = R7289g.Spec.Plain.str _
  congr 1
def repliesW (vs : List RWire.Value) : List Reply := (Rust.takenAll vs).map replyOf
def spByReplies (a : Adr) : Sp := sp2 fun x y H Q E => ∃ (c l : Addr) (G : Hp) (cm : R7289g.Spec.Commit) (vs : List RWire.Value) (ps : List Addr), x = .ref c ∧ y = .ref l ∧ CmAt a G H c cm ∧ H l = some (.lst (ps.map V.ref)) ∧ PAll a G vs ps ∧ vs.length ≤ 1000000 ∧ Same G H ∧ G c = none ∧
  ∀ G' H', GrowB c G H G' H' → CmAt a G' H' c (cm.run (repliesW vs ++ [.value .undef])) → Q .non H'
theorem replies_nil (vs : List RWire.Value) : repliesW vs ++ [.value .undef] = repliesW (vs ++ [RWire.Value.nothing]) := by
  unfold repliesW
  rw [takenAll_map, takenAll_map, List.map_append, List.map_append]
  rfl
theorem CmAt.some {a : Adr} {G H : Hp} {c : Addr} {cm : R7289g.Spec.Commit} (h : CmAt a G H c cm) : H c ≠ none := by
  obtain ⟨m, t, l, o, h1, _⟩ := h
  exact h1.some
theorem CmAt.waits {a : Adr} {G H : Hp} {c : Addr} {cm : R7289g.Spec.Commit} (h : CmAt a G H c cm) : ∃ (m t l : Int) (o : V), CmI a H c m t l o ∧ decide (o = .non) = cm.waiting ∧ cm.outcome.isSome = !cm.waiting := by
  obtain ⟨m, t, l, o, h1, h2⟩ := h
  refine ⟨m, t, l, o, h1, ?_⟩
  rcases h2 with ⟨h3, h4, h5, _⟩ | ⟨h3, oc, p, h4, h5, h6⟩
  · rw [h3, h4, h5]; exact ⟨rfl, rfl⟩
  · rw [h3, h4, h5]; exact ⟨rfl, rfl⟩
theorem c_by_replies (T : Txt K mg a) : Cal P w K mg base 6 "by_replies" (spByReplies a) := by
  refine cal T.d_by_replies sc_by_replies len2 fun f cdv A outer s H vs Q E hr h => ?_
  obtain ⟨_, _, rfl, c, l, G, cm, vs, ps, rfl, rfl, hc, hl, hps, hz, sG, gc, q⟩ := h
  refine ⟨_, (pss_one (ps_for PassesOwn.never rfl (pi_list (pe_op op_cat (pv 1) (pe_lst (pa_cons (pe_c0 (c_nothing T) hr (by decide) rfl) pa_nil)))) (pg_name (i := 2) sc_by_replies.nd rfl (Or.inl rfl)) (pss_one (ps_if (pt_val (pe_c (c_does_wait T) hr (by decide) rfl (pa_cons (pv 0) pa_nil))) (pss_one (ps_if (pt_cmpR op_eq (pe_f T.c_Piece.cl T.n_Piece_kind (pv 2)) (pe_gc rfl T.k_NULL) (nomark _)) (pss_one (ps_expr (pe_c (c_fail_commit T) hr (by decide) rfl (pa_cons (pv 0) (pa_cons (pe_cw (c_text T) (roomH_of hr) (by decide) (.inl rfl) rfl (pa_cons pe_str pa_nil)) pa_nil))))) (pss_one (ps_expr (pe_c (c_answer_commit T) hr (by decide) rfl (pa_cons (pv 0) (pa_cons (pv 2) pa_nil))))))) pss_nil)))), ?_⟩
  have hpl := pall_len hps
  have nc := hc.some
  refine ⟨_, rfl, rfl, fun H1 p1 n1 s1 e1 => ⟨fit rfl, fun l1 nl1 => ?_⟩⟩
  obtain ⟨G1, x1, y1, z1⟩ := grow_pc (Grow.refl sG) n1 s1 e1
  have s2 := s1.trans (sm_upd (o := .lst [.ref p1]) nl1)
  refine ⟨l, l1, ps.map V.ref, [.ref p1], rfl, rfl, s2 _ _ hl, upd_same, by rw [List.length_map, sizeLine_eq]; simp; omega, fun l2 nl2 => ?_⟩
  have s3 := s2.trans (sm_upd (o := .lst (ps.map V.ref ++ [.ref p1])) nl2)
  have el2 : (upd (upd H1 l1 (.lst [.ref p1])) l2 (.lst (ps.map V.ref ++ [.ref p1]))) l2 = some (.lst ((ps ++ [p1]).map V.ref)) := by rw [upd_same, List.map_append]; rfl
  have x2 := x1.loose ((sm_upd (o := .lst [.ref p1]) nl1).trans (sm_upd (o := .lst (ps.map V.ref ++ [.ref p1])) nl2))
  generalize upd (upd H1 l1 (.lst [.ref p1])) l2 (.lst (ps.map V.ref ++ [.ref p1])) = H3 at s3 el2 x2
  have g1c := x1.new c gc nc
  have hall : PAll a G1 (vs ++ [RWire.Value.nothing]) (ps ++ [p1]) := by
    refine pall_of _ _ (by simp [hpl]) fun i v p h1 h2 => ?_
    by_cases hi : i < vs.length
    · rw [List.getElem?_append_left hi] at h1
      rw [List.getElem?_append_left (by omega)] at h2
      exact PAt.same x1.up _ _ (pall_get hps h1 h2)
    · rw [List.getElem?_append_right (by omega)] at h1
      rw [List.getElem?_append_right (by omega)] at h2
      have e0 : i - vs.length = 0 := by
        cases e0 : i - vs.length with
        | zero => rfl
        | succ k => rw [e0] at h1; simp at h1
      have e0' : i - ps.length = 0 := by omega
      rw [e0] at h1
      rw [e0'] at h2
      cases h1
      cases h2
      exact z1
  rw [replies_nil] at q
  have nl2c : l2 ≠ c := fun z => by
    have : H c = none := sm_none s2 (by rw [← z]; exact nl2)
    exact nc this
  refine ⟨l2, rfl, ⟨_, SqL.of el2⟩, for_list (xs := (ps ++ [p1]).map V.ref) (fun i σ HH => ∃ (vO : Option V) (G' : Hp), σ = [some (.ref c), some (.ref l), vO] ∧ GrowB c G H G' HH ∧ Same G1 G' ∧ But c H3 HH ∧ CmAt a G' HH c (cm.run (repliesW ((vs ++ [RWire.Value.nothing]).take i)))) ?_ ?_ ?_ ?_⟩
  · exact ⟨none, G1, rfl, .of x2, Same.refl _, But.refl, hc.keep x1.up fun o e => s3 _ _ e⟩
  · rintro i σ HH _ ⟨vO, G', rfl, x, _, b, _⟩
    exact SqL.of (b _ _ nl2c el2)
  · rintro i x σ HH hx ⟨vO, G', rfl, xb, up, b, hcm⟩
    obtain ⟨p, hpi, rfl⟩ : ∃ p, (ps ++ [p1])[i]? = some p ∧ x = .ref p := by
      rw [List.getElem?_map] at hx
      cases e : (ps ++ [p1])[i]? with
      | none => rw [e] at hx; cases hx
      | some t => rw [e] at hx; cases hx; exact ⟨t, rfl, rfl⟩
    have hi : i < (vs ++ [RWire.Value.nothing]).length := by
      rw [pall_len hall]
      exact (List.getElem?_eq_some_iff.mp hpi).1
    have hvi := List.getElem?_eq_getElem hi
    generalize (vs ++ [RWire.Value.nothing])[i] = v at hvi
    have hP := PAt.same up _ _ (pall_get hall hvi hpi)
    have hP2 := PAt.same xb.sub _ _ hP
    have nG : G' c = none := xb.new c gc nc
    have ncc : HH c ≠ none := hcm.some
    have enext : cm.run (repliesW ((vs ++ [RWire.Value.nothing]).take (i + 1))) = if (cm.run (repliesW ((vs ++ [RWire.Value.nothing]).take i))).outcome.isSome then cm.run (repliesW ((vs ++ [RWire.Value.nothing]).take i)) else (cm.run (repliesW ((vs ++ [RWire.Value.nothing]).take i))).receive (replyOf (Rust.taken v)) := by
      have e5 : (vs ++ [RWire.Value.nothing]).take (i + 1) = (vs ++ [RWire.Value.nothing]).take i ++ [v] := by rw [List.take_succ, hvi]; rfl
      have e6 : repliesW ((vs ++ [RWire.Value.nothing]).take i ++ [v]) = repliesW ((vs ++ [RWire.Value.nothing]).take i) ++ [replyOf (Rust.taken v)] := by
        unfold repliesW
        rw [takenAll_map, takenAll_map, List.map_append, List.map_append]
        rfl
      rw [e5, e6, run_snoc]
    generalize hcur : cm.run (repliesW ((vs ++ [RWire.Value.nothing]).take i)) = cur at hcm enext
    obtain ⟨m', t', l', o', hi', ho', hs'⟩ := hcm.waits
    refine ⟨_, rfl, _, rfl, c, m', t', l', o', rfl, hi', _, rfl, ?_⟩
    rw [ho']
    rw [hs'] at enext
    cases hw : cur.waiting with
    | false =>
      rw [hw] at enext
      refine ifF rfl ⟨_, G', rfl, xb, up, b, ?_⟩
      rw [enext]
      exact hcm
    | true =>
      rw [hw] at enext
      have enext : cm.run (repliesW ((vs ++ [RWire.Value.nothing]).take (i + 1))) = cur.receive (replyOf (Rust.taken v)) := enext
      obtain ⟨cc, dk, ek⟩ := pat_kind hP2
      refine ifT rfl ⟨_, rfl, p, dk, _, _, rfl, ek, rfl, rfl, _, rfl, ?_⟩
      by_cases h1 : knd v = 1
      · have hv := knd_null h1
        subst hv
        refine ifT (eqI h1) ⟨_, rfl, _, rfl, _, _, G', rfl, by decide +kernel, c_stop, xb.sub, fun G4 H4 p4 x4 n4 a4 => ⟨_, _, rfl, c, p4, G4, cur, _, rfl, rfl, hcm.keep x4.up fun o e => x4.same _ _ e, hw, a4, x4.sub, x4.new c nG ncc, fun G5 H5 x5 h5 => ?_⟩⟩
        have x45 := (GrowB.of x4).trans x5 (by intro z; exact ncc (sm_none x4.same z))
        refine ⟨_, G5, rfl, xb.trans x45 ncc, up.trans x45.up, b.trans x45.but, ?_⟩
        rw [enext]
        rw [taken_stop] at h5
        exact h5
      · refine ifF (neI h1) ⟨_, rfl, _, rfl, _, _, rfl, c, p, G', cur, v, rfl, rfl, hcm, hw, hP2, xb.sub, nG, fun G5 H5 x5 h5 => ?_⟩
        refine ⟨_, G5, rfl, xb.trans x5 ncc, up.trans x5.up, b.trans x5.but, ?_⟩
        rw [enext]
        have e7 : replyOf (Rust.taken v) = .value (Rust.taken v) := by
          cases v with
          | null => exact absurd rfl h1
          | bool b => rfl
          | nothing => rfl
          | int _ => rfl
          | text _ => rfl
          | list _ => rfl
          | record _ => rfl
          | big _ => rfl
          | octets _ => rfl
          | wide _ => rfl
        rw [e7]
        exact h5
  · rintro σ HH ⟨vO, G', rfl, xb, up, b, hcm⟩
    rw [List.length_map, ← pall_len hall, List.take_length] at hcm
    exact q G' HH xb hcm
def spOutcomeTold (a : Adr) : Sp := sp1 fun x H Q E => ∃ (c : Addr) (G : Hp) (cm : R7289g.Spec.Commit), x = .ref c ∧ CmAt a G H c cm ∧ Same G H ∧ ∀ H' p, Same H H' → PAt a H' (Rust.given (R7289g.Spec.outcomePlain cm.outcome)) p → Q (.ref p) H'
theorem c_outcome_told (T : Txt K mg a) : Cal P w K mg base 3 "outcome_told" (spOutcomeTold a) := by
  refine cal T.d_outcome_told sc_outcome_told len1 fun f cdv A outer s H vs Q E hr h => ?_
  obtain ⟨_, rfl, c, G, cm, rfl, hc, sG, q⟩ := h
  refine ⟨_, (pss_one (ps_ret (pe_ifExp (pt_val (pe_c (c_does_wait T) hr (by decide) rfl (pa_cons (pv 0) pa_nil))) (pe_mkw (m_Piece T) (roomH_of hr) (by decide) (.inl rfl) rfl (pa_cons (pe_gc rfl T.k_NULL) (pa_cons pe_int pa_nil))) (pe_f T.c_Commit.cl T.n_Commit_outcome (pv 0))))), ?_⟩
  obtain ⟨m, t, l, o, hi, h2⟩ := hc
  refine ⟨_, rfl, _, rfl, c, m, t, l, o, rfl, hi, _, rfl, ?_⟩
  rcases h2 with ⟨h3, h4, h5, _⟩ | ⟨h3, oc, p, h4, h5, h6⟩
  · subst h5
    refine ifT rfl (made rfl fun H' p hp s' hi' => q H' p s' ?_)
    rw [h4]
    exact hi'
  · subst h5
    obtain ⟨dx, e⟩ := hi
    exact ifF rfl ⟨_, rfl, c, dx, _, _, rfl, e, rfl, q H p (Same.refl _) (PAt.same sG _ _ h6)⟩
end
end Zr
end
section
set_option maxRecDepth 100000
set_option maxHeartbeats 2000000
/-! The defs of commits: arguments that are checked; commits that begin. -/
namespace Zr
open PySem PySem.Spec PyProof.Rows L2 L2H
open Zp (oi)
open R7289g.Spec (Reply replyOf)
section
variable {a : Adr} {G : Hp}
mutual
theorem pat_kin : ∀ (v : RWire.Value) (p : Addr), PAt a G v p → Zp.kin v = true
  | .nothing, _, _ => rfl
  | .null, _, _ => rfl
  | .bool _, _, _ => rfl
  | .int _, _, _ => rfl
  | .text u, _, _ => rfl
  | .list vs, _, ⟨l, ps, h1, h2, h3⟩ => by rw [Zp.kin_list]; exact pall_kin vs ps h3
  | .record es, _, ⟨l, ts, h1, h2, h3⟩ => by rw [Zp.kin_record]; exact pents_kin es ts h3
  | .big _, _, h => h.elim
  | .octets _, _, h => h.elim
  | .wide _, _, h => h.elim
theorem pall_kin : ∀ (vs : List RWire.Value) (ps : List Addr), PAll a G vs ps → Zp.kinAll vs = true
  | [], _, _ => rfl
  | v :: vs, _, ⟨q, r, e, h1, h2⟩ => Zp.kinAll_cons.mpr ⟨pat_kin v q h1, pall_kin vs r h2⟩
theorem pents_kin : ∀ (es : List (RWire.Text × RWire.Value)) (ts : List Addr), PEnts a G es ts → Zp.kinEnt es = true
  | [], _, _ => rfl
  | (n, v) :: es, _, ⟨t, nn, q, r, e1, h1, h2, h3, h4⟩ => Zp.kinEnt_cons.mpr ⟨pat_kin v q h3, pents_kin es r h4⟩
end
end
/-- a refusal of the specification, as the program has it -/
structure EIs (e : R7289g.Spec.Err) (k : Int) (m : Str) : Prop where
  cls : (k = 1 ∧ e.cls = .typeError) ∨ (k = 2 ∧ e.cls = .rangeError)
  msg : cI m = oi (e.msg.map Rust.octetOf)
  sz : m.cps.size ≤ 1000
theorem EIs.k12 {e : R7289g.Spec.Err} {k : Int} {m : Str} (h : EIs e k m) : k = 1 ∨ k = 2 := by
  rcases h.cls with ⟨h, _⟩ | ⟨h, _⟩
  · exact .inl h
  · exact .inr h
theorem EIs.name {e : R7289g.Spec.Err} {k : Int} {m : Str} (h : EIs e k m) : R7289g.Spec.className e.cls = kname k := by
  rcases h.cls with ⟨h, h'⟩ | ⟨h, h'⟩
  · rw [h, h']; rfl
  · rw [h, h']; rfl
def mFence : Str := "batch must write a key of its conditions"
def mMost : Str := "most must be an integer from 1 to 10"
theorem e_batch : EIs R7289g.Spec.noBatch 1 mBatch := ⟨.inl ⟨rfl, rfl⟩, by decide +kernel, by decide +kernel⟩
theorem e_fence : EIs R7289g.Spec.noFence 1 mFence := ⟨.inl ⟨rfl, rfl⟩, by decide +kernel, by decide +kernel⟩
theorem e_most : EIs R7289g.Spec.noMost 2 mMost := ⟨.inr ⟨rfl, rfl⟩, by decide +kernel, by decide +kernel⟩
theorem commit_none {v mv : RWire.Value} (hk : Zp.kin v = true) (h : batchV 4 v = none) : R7289g.Spec.commitArg (Rust.taken v) (Rust.taken mv) = .error R7289g.Spec.noBatch := by
  unfold R7289g.Spec.commitArg
  rw [batchIn_taken (by decide) (by decide) v (kin_oct hk), h]
  rfl
theorem commit_some {v mv : RWire.Value} (hk : Zp.kin v = true) {b : R7289g.Spec.Batch} (h : batchV 4 v = some b) : R7289g.Spec.commitArg (Rust.taken v) (Rust.taken mv) =
    if R7289g.Spec.isFenced b then (if isNum mv 1 10 then .ok (b, ((numVal mv).map Int.toNat).getD 0) else .error R7289g.Spec.noMost) else .error R7289g.Spec.noFence := by
  unfold R7289g.Spec.commitArg
  rw [batchIn_taken (by decide) (by decide) v (kin_oct hk), h]
  show (if R7289g.Spec.isFenced b then R7289g.Spec.andThen (R7289g.Spec.orElse R7289g.Spec.noMost (R7289g.Spec.rangeIn 1 10 (Rust.taken mv))) _ else _) = _
  rw [rangeIn_taken 1 10 mv]
  have e : isNum mv ((1 : Nat) : Int) ((10 : Nat) : Int) = isNum mv 1 10 := rfl
  rw [e]
  cases h2 : isNum mv 1 10 with
  | false => rfl
  | true =>
    obtain ⟨i, rfl, _⟩ := isNum_val h2
    rfl
section
variable {P : Program} {w : World} {K : PySem.W.Frag} {mg : Str → Option Value} {base : Heap} {a : Adr}
def spCheckCommit (a : Adr) : Sp := sp2 fun x y H Q E => ∃ (p0 p1 : Addr) (v mv : RWire.Value), x = .ref p0 ∧ y = .ref p1 ∧ PAt a H v p0 ∧ PAt a H mv p1 ∧
  (∀ err k m, R7289g.Spec.commitArg (Rust.taken v) (Rust.taken mv) = .error err → EIs err k m → ∀ H', Same H H' → ERef a k m H' E) ∧
  ∀ b (n : Nat), R7289g.Spec.commitArg (Rust.taken v) (Rust.taken mv) = .ok (b, n) → 1 ≤ n → n ≤ 10 → ∀ H', Same H H' → Q (.int (n : Int)) H'
theorem get_ref {xs : List Addr} {i : Nat} {x : V} (hx : (xs.map V.ref)[i]? = some x) : ∃ t, xs[i]? = some t ∧ x = .ref t := by
  rw [List.getElem?_map] at hx
  cases e : xs[i]? with
  | none => rw [e] at hx; cases hx
  | some t => rw [e] at hx; cases hx; exact ⟨t, rfl, rfl⟩
theorem range_map {α β : Type} (l : List α) (d : α) (f : α → β) : (List.range l.length).map (fun i => f (l.getD i d)) = l.map f := by
  apply List.ext_getElem?
  intro j
  rw [List.getElem?_map, List.getElem?_map]
  by_cases hj : j < l.length
  · rw [List.getElem?_range hj, List.getElem?_eq_getElem hj]
    simp [List.getD_eq_getElem?_getD, List.getElem?_eq_getElem hj]
  · rw [List.getElem?_eq_none (by simp; omega), List.getElem?_eq_none (by omega)]
    rfl
theorem inV_nats (k : Nat) : ∀ l : List Nat, inV (.int (k : Int)) (l.map fun (n : Nat) => V.int (n : Int)) = l.contains k
  | [] => rfl
  | x :: l => by
    have ih := inV_nats k l
    show (eqV (.int (x : Int)) (.int (k : Int)) || inV (.int (k : Int)) (l.map fun (n : Nat) => V.int (n : Int))) = _
    rw [ih, List.contains_cons]
    congr 1
    show decide ((x : Int) = (k : Int)) = _
    by_cases h : k = x
    · subst h; simp
    · rw [decide_eq_false (by omega)]
      exact (beq_eq_false_iff_ne.mpr h).symm
theorem flat_nats (l : List Nat) : (l.map fun (n : Nat) => V.int (n : Int)).all flatV = true := by
  rw [List.all_eq_true]
  intro x hx
  obtain ⟨n, _, rfl⟩ := List.mem_map.mp hx
  rfl
theorem c_check_commit (T : Txt K mg a) : CalX P w K mg base 5 "check_commit" (spCheckCommit a) := by
  refine calX T.d_check_commit sc_check_commit len2 fun f cdv A outer s H vs Q E hr h => ?_
  obtain ⟨_, _, rfl, p0, p1, v, mv, rfl, rfl, hp, hm, qe, qo⟩ := h
  refine ⟨_, (pss_cons (ps_set (i := 2) sc_check_commit.nd rfl (Or.inl rfl) (pe_cx (c_need_batch T) hr (by decide) (L2N.takes_of rfl rfl rfl rfl) rfl (pa_cons (pv 0) (pa_cons (pe_gc rfl T.k_MOST_KEYS) pa_nil))))
    (pss_cons (ps_set (i := 3) sc_check_commit.nd rfl (Or.inr rfl) (pe_lc (own := [("key", 4), ("own", 5)]) (g := (gTup K 2 (gCons (gName 4) (gCons (gName 5) gNil)))) (tt := tYes) rfl sc_check_commit.nd (pi_list (pe_f T.c_Batch.cl T.n_Batch_writes (pv 2))) (blkOk_by (N := ["batch", "most", "found", "some", "key", "own", "version"]) (sc := defScope s_check_commit) (by decide +kernel)) (fun _ _ _ _ _ => (pg_tup rfl (pgs_cons (pg_name (i := 4) sc_check_commit.nd rfl (Or.inl rfl)) (pgs_cons (pg_name (i := 5) sc_check_commit.nd rfl (Or.inl rfl)) pgs_nil)))) (fun _ _ _ _ _ => pts_nil) (fun _ _ _ _ _ => (pv 4))))
    (pss_cons (ps_expr (pe_cx (c_need T) hr (by decide) (L2N.takes_of rfl rfl rfl rfl) rfl (pa_cons (pe_callB (cr_any rfl) rfl T.b_any (by decide +kernel) (pa_cons (pe_lc (own := [("key", 4), ("version", 6)]) (g := (gTup K 2 (gCons (gName 4) (gCons (gName 6) gNil)))) (tt := tYes) rfl sc_check_commit.nd (pi_list (pe_f T.c_Batch.cl T.n_Batch_conditions (pv 2))) (blkOk_by (N := ["batch", "most", "found", "some", "key", "own", "version"]) (sc := defScope s_check_commit) (by decide +kernel)) (fun _ _ _ _ _ => (pg_tup rfl (pgs_cons (pg_name (i := 4) sc_check_commit.nd rfl (Or.inl rfl)) (pgs_cons (pg_name (i := 6) sc_check_commit.nd rfl (Or.inl rfl)) pgs_nil)))) (fun _ _ _ _ _ => pts_nil) (fun _ _ _ _ _ => (pe_cmpR (show OpR _ (compareOp .In) (rIn K false) from op_in_seq) (pv 4) (pv 3) (by rfl)))) pa_nil)) (pa_cons pe_str pa_nil))))
    (pss_cons (ps_expr (pe_cx (c_check T) hr (by decide) (L2N.takes_of rfl rfl rfl rfl) rfl (pa_cons (pe_c (c_is_number T) hr (by decide) rfl (pa_cons (pv 1) (pa_cons pe_int (pa_cons (pe_gc rfl T.k_MOST_ATTEMPTS) pa_nil)))) (pa_cons pe_str pa_nil))))
    (pss_one (ps_ret (pe_f T.c_Piece.cl T.n_Piece_content (pv 1)))))))), ?_⟩
  have hk := pat_kin v p0 hp
  refine ⟨_, rfl, _, _, rfl, p0, v, 4, H, rfl, rfl, hp, Same.refl H, fun h1 H1 s1 => qe _ 1 mBatch (commit_none hk h1) e_batch H1 s1, fun b h1 G1 H1 q1 x1 n1 r1 => ?_⟩
  have s1 := x1.same
  have hb := BatAt.same x1.sub r1
  obtain ⟨c, w0, ⟨dx, eb⟩, ⟨hcl, cs, ec, hct⟩, hwl, ws, ew, hwt⟩ := hb
  have hwn := hwt.len
  have hcn := hct.len
  rw [commit_some hk h1] at qe qo
  refine ⟨_, rfl, q1, dx, _, _, rfl, eb, rfl, w0, rfl, ⟨_, SqL.of ew⟩, fun D hD => lc_l (xs := ws.map V.ref) (G0 := H1) (fun _ => true) (fun i y _ => y = .int (((b.writes.getD i (0, 0)).1 : Nat) : Int)) (SqL.of ew) hD (Same.refl _) (by simp; omega) (fun i y G G' _ h => h) ?_ ?_⟩
  · intro i x G2 H2 hx gr Yes No k _
    obtain ⟨t, ht, rfl⟩ := get_ref hx
    obtain ⟨e, h2, h3⟩ := hwt.get ht
    refine ⟨t, _, rfl, SqT.of (gr.same _ _ h3), rfl, _, _, rfl, _, _, rfl, rfl, rfl, _, rfl, k rfl _ G2 H2 (Grow.refl gr.sub) ?_⟩
    rw [List.getD_eq_getElem?_getD, h2]
    rfl
  intro G2 H2 ys L
  have e5 : ys = (b.writes.map fun e => e.1).map fun (n : Nat) => V.int (n : Int) := by
    rw [L.vals, List.length_map, hwn, List.map_map]
    exact range_map b.writes (0, 0) (fun e => V.int ((e.1 : Nat) : Int))
  have eD := L.at_
  rw [e5] at eD
  have s2 := L.gr.same
  refine ⟨_, rfl, q1, dx, _, _, rfl, s2 _ _ eb, rfl, c, rfl, ⟨_, SqL.of (s2 _ _ ec)⟩, fun D2 hD2 => lc_l (xs := cs.map V.ref) (G0 := H2) (fun _ => true) (fun i y _ => y = .bl ((b.writes.map fun e => e.1).contains (b.conditions.getD i (0, 0)).1)) (SqL.of (s2 _ _ ec)) hD2 (Same.refl _) (by simp; omega) (fun i y G G' _ h => h) ?_ ?_⟩
  · intro i x G3 H3 hx gr Yes No k _
    obtain ⟨t, ht, rfl⟩ := get_ref hx
    obtain ⟨e, h2, h3⟩ := hct.get ht
    refine ⟨t, _, rfl, SqT.of (gr.same _ _ (s2 _ _ h3)), rfl, _, _, rfl, _, _, rfl, rfl, rfl, _, rfl, _, rfl, D, _, rfl, .inl (SqL.of (gr.same _ _ eD)), rfl, flat_nats _, k rfl _ G3 H3 (Grow.refl gr.sub) ?_⟩
    rw [List.getD_eq_getElem?_getD, h2]
    exact congrArg V.bl (inV_nats e.1 _)
  intro G3 H3 zs L2
  have s3 := s2.trans L2.gr.same
  have e6 : zs = (b.conditions.map fun e => (b.writes.map fun e => e.1).contains e.1).map V.bl := by
    rw [L2.vals, List.length_map, hcn, List.map_map]
    exact range_map b.conditions (0, 0) (fun e => V.bl ((b.writes.map fun e => e.1).contains e.1))
  have eD2 := L2.at_
  rw [e6] at eD2
  have hF : ((b.conditions.map fun e => (b.writes.map fun e => e.1).contains e.1)).any id = R7289g.Spec.isFenced b := by
    rw [List.any_map]
    rfl
  refine ⟨D2, _, rfl, SqL.of eD2, _, _, rfl, _, mFence, rfl, rfl, fun hy => ?_, fun hn => ?_⟩
  · rw [hF] at hy
    rw [hy] at qe qo
    have hm3 := PAt.same (s1.trans s3) _ _ hm
    refine ⟨_, rfl, _, _, _, rfl, p1, mv, 1, 10, rfl, rfl, rfl, hm3, _, _, rfl, isNum mv 1 10, mMost, rfl, rfl, fun h5 => ?_, fun h5 => ?_⟩
    · obtain ⟨i, rfl, hi1, hi2⟩ := isNum_val h5
      obtain ⟨d1, f1⟩ := pat_int hm3
      obtain ⟨n, rfl⟩ := Int.eq_ofNat_of_zero_le (show (0 : Int) ≤ i by omega)
      refine ⟨_, rfl, p1, d1, _, _, rfl, f1, rfl, qo b n ?_ (by omega) (by omega) H3 (s1.trans s3)⟩
      rw [h5]
      rfl
    · refine qe _ 2 mMost ?_ e_most H3 (s1.trans s3)
      rw [h5]
      rfl
  · rw [hF] at hn
    rw [hn] at qe
    exact qe _ 1 mFence rfl e_fence H3 (s1.trans s3)
end
end Zr
end
section
set_option maxRecDepth 100000
set_option maxHeartbeats 2000000
/-! The defs of commits: a commit that begins. -/
namespace Zr
open PySem PySem.Spec PyProof.Rows L2 L2H
open Zp (oi)
theorem takes0N {X : Cx} : L2N.Takes X (fun _ _ _ _ => False) := fun _ _ x => by
  obtain ⟨_, _, _, _, _, _, _, _, _, _, _, _, _, _, _, _, z⟩ := x
  exact z.elim
theorem GrowB.whole {c : Addr} {G H H2 G' H' : Hp} (s : Same H H2) (x : GrowB c G H2 G' H') (n : H c = none) : Grow G H G' H' :=
  ⟨x.up, x.sub, fun b o e => x.but b o (ne_of_none e n) (s b o e), fun b h1 h2 => x.new b h1 (by
    cases e : H b with
    | none => exact absurd e h2
    | some o => rw [s b o e]; simp)⟩
section
variable {P : Program} {w : World} {K : PySem.W.Frag} {mg : Str → Option Value} {base : Heap} {a : Adr}
abbrev spCommitInit (a : Adr) : Sp := spIn 1 a.commit fun us => fCommit (us.getD 0 .non) (.int 1) (.int 0) .non
def tBegunBody (a : Adr) (W : WX) : TS := tRet (tMakeW a.commit (spCommitInit a) (tCons (tCallS (spCheckCommit a) (WE W) (tCons (tVar 0) (tCons (tVar 1) tNil))) tNil))
def tBegunSuite (a : Adr) (e : Addr) (cls : Value) (d : Option Addr) : TS :=
  tSeq (tAsg (tMakeW a.commit (spCommitInit a) (tCons (tC (.int 0)) tNil)) (gName 3))
    (tSeq (tDrop (tCallW (spReject a) (tCons (tVar 3) (tCons (tXf e cls d a.refused "kind" (tVar 2)) (tCons (tXf e cls d a.refused "message" (tVar 2)) tNil))))) (tRet (tVar 3)))
def spBegun (a : Adr) : Sp := sp2 fun x y H Q E => ∃ (p0 p1 : Addr) (G : Hp) (v mv : RWire.Value), x = .ref p0 ∧ y = .ref p1 ∧ PAt a H v p0 ∧ PAt a H mv p1 ∧ Same G H ∧
  ∀ G' H' c, Grow G H G' H' → G' c = none → H c = none → CmAt a G' H' c (R7289g.Spec.begun (Rust.taken v) (Rust.taken mv)) → Q (.ref c) H'
theorem c_begun (T : Txt K mg a) : Cal P w K mg base 6 "begun" (spBegun a) := by
  refine cal T.d_begun sc_begun len2 fun f cdv A outer s H vs Q E hr h => ?_
  obtain ⟨_, _, rfl, p0, p1, G, v, mv, rfl, rfl, hp, hm, sG, q⟩ := h
  refine ⟨_, pss_one (L2N.ps_try_as (i := 2) (c := .ref a.refused) (tb := tBegunBody a) (ts := tBegunSuite a) (Wout := fun _ _ _ _ => False) rfl rfl sc_begun.nd rfl rfl ⟨rfl, by decide, Or.inl T.refC.g⟩ takes0N
    (fun W pn xe tk _ => pss_one (ps_ret (pe_mkw (m_Commit T) (roomH_of hr) (by decide) (.inl rfl) rfl (pa_cons (pe_cx (c_check_commit T) hr (by decide) tk rfl (pa_cons (pv 0) (pa_cons (pv 1) pa_nil))) pa_nil))))
    (fun e oe cls d pn hz hf => ?_)), ?_⟩
  · obtain ⟨vs, hd⟩ := hf
    have hw : Warm (Cx.suite (cxC P w K mg base ["batch", "most", "e", "found"] "begun" (defScope s_begun) f cdv A outer s H E) e ((e, oe) :: pn)) := .inr ⟨(e, oe), ⟨rfl, vs, hd, hz.2.2 vs hd⟩, List.mem_cons_self⟩
    exact pss_cons (ps_set (i := 3) sc_begun.nd rfl (Or.inl rfl) (pe_mkw (m_Commit T) (roomH_mark hr _) (by decide) hw rfl (pa_cons pe_int pa_nil)))
      (pss_cons (ps_expr (pe_cw (c_reject T) (roomH_mark hr _) (by decide) hw rfl (pa_cons (pv 3) (pa_cons (pe_xf T.refC.xf T.refC.nk hz.zc ⟨vs, hd⟩ (pv 2)) (pa_cons (pe_xf T.refC.xf T.refC.nm hz.zc ⟨vs, hd⟩ (pv 2)) pa_nil)))))
      (pss_one (ps_ret (pv 3))))
  have bad : ∀ err k m, R7289g.Spec.commitArg (Rust.taken v) (Rust.taken mv) = .error err → EIs err k m → ∀ H', Same H H' → ERef a k m H'
      (WE (wAs K (.ref a.refused) 2 (tBegunSuite a) (fun _ _ _ _ => False) { nx := fun _ H' => Q .non H', rt := Q }) (L2.start ["batch", "most", "e", "found"] [.ref p0, .ref p1])) := by
    intro err k m he hi H' s' H1 d s1 nd ed
    refine ⟨true, T.refC.te, fun _ e ne => ?_, fun z => nomatch z⟩
    intro x dx hx hdx hne
    refine madeR rfl hx hdx fun H2 s2 hins => ?_
    have s12 := (s'.trans s1).trans s2
    have gx : G x = none := sm_none (sG.trans (s'.trans s1)) hx
    refine ⟨_, rfl, _, rfl, rfl, rfl, d, fRef k m, .int k, rfl, s2 _ _ ed, rfl, _, rfl, rfl, rfl, d, fRef k m, .str m, rfl, s2 _ _ ed, rfl, ?_⟩
    refine ⟨_, _, _, rfl, x, k, m, err.msg.map Rust.octetOf, G, 0, 1, 0, .non, rfl, rfl, rfl, hi.k12, hins, hi.sz, hi.msg, sG.trans s12, gx, fun G3 H3 p x3 hi3 hP => ?_⟩
    refine ⟨_, rfl, q G3 H3 x (GrowB.whole s12 x3 (sm_none (s'.trans s1) hx)) (x3.new x gx hins.some) (sm_none (s'.trans s1) hx) ?_⟩
    have eb : R7289g.Spec.begun (Rust.taken v) (Rust.taken mv) = R7289g.Spec.rejected err := by
      unfold R7289g.Spec.begun
      rw [he]
    rw [eb]
    refine ⟨0, 1, 0, .ref p, hi3, .inr ⟨rfl, _, p, rfl, rfl, ?_⟩⟩
    have e4 : Rust.given (R7289g.Spec.outcomePlain (R7289g.Spec.rejected err).outcome) = .list [.text (oS "rejected"), .text (oS (R7289g.Spec.className err.cls)), .text (err.msg.map Rust.octetOf)] := rfl
    rw [e4, hi.name]
    exact hP
  refine ⟨_, rfl, _, rfl, _, _, rfl, p0, p1, v, mv, rfl, rfl, hp, hm, bad, fun b n he h1 h10 H1 s1 => ?_⟩
  intro x dx hx hdx hne
  refine madeR rfl hx hdx fun H2 s2 hins => ?_
  have gx : G x = none := sm_none (sG.trans s1) hx
  refine q G H2 x ((Grow.refl sG).loose (s1.trans s2)) gx (sm_none s1 hx) ?_
  have eb : R7289g.Spec.begun (Rust.taken v) (Rust.taken mv) = ⟨b, n, 0, true, none⟩ := by
    unfold R7289g.Spec.begun
    rw [he]
  rw [eb]
  exact ⟨(n : Int), 1, 0, .non, hins, .inl ⟨rfl, rfl, rfl, rfl, rfl, rfl, h1, h10⟩⟩
end
end Zr
end
section
set_option maxRecDepth 100000
set_option maxHeartbeats 2000000
/-! Worlds: as they stand in the heap; whether a batch holds, what it writes, what its arrival makes. -/
namespace Zr
open PySem PySem.Spec PyProof.Rows L2 L2H
open Zp (oi)
open Zw (Wd)
open R7289g.Spec (Batch batchAt versionOf recordOf)
def Bok (n : Nat) (b : Batch) : Prop := (∀ c ∈ b.conditions, c.1 < n) ∧ ∀ c ∈ b.writes, c.1 < n
def Eok (n : Nat) : R7289g.Spec.Entry → Prop
  | .lost b => Bok n b
  | .answered b _ => Bok n b
  | .read k _ => k < n
def Lok (n : Nat) (l : List R7289g.Spec.Entry) : Prop := ∀ e ∈ l, Eok n e
theorem write_len (s : R7289g.Spec.State) (e : Nat × Nat) : (R7289g.Spec.write s e).length = s.length := List.length_set ..
theorem foldl_len (ws : List (Nat × Nat)) : ∀ s : R7289g.Spec.State, (ws.foldl R7289g.Spec.write s).length = s.length := by
  induction ws with
  | nil => intro s; rfl
  | cons e r ih => intro s; rw [List.foldl_cons, ih, write_len]
theorem apply_len (b : Batch) (s : R7289g.Spec.State) : (b.apply s).length = s.length := foldl_len _ _
section
variable {H H' : Hp}
theorem PrsT.at_ : ∀ {l : List (Nat × Nat)} {ts : List Addr} {i : Nat} {e : Nat × Nat}, PrsT H l ts → l[i]? = some e → ∃ t, ts[i]? = some t ∧ RecAt H t e
  | [], _, i, _, h, k => by simp at k
  | x :: l, _, 0, e, ⟨t, r, e1, h1, h2⟩, k => by subst e1; cases k; exact ⟨t, rfl, h1⟩
  | x :: l, _, i + 1, e, ⟨t, r, e1, h1, h2⟩, k => by
    subst e1
    obtain ⟨t', h3, h4⟩ := h2.at_ (i := i) (by simpa using k)
    exact ⟨t', by simpa using h3, h4⟩
theorem PrsT.set {t : Addr} {e : Nat × Nat} (k : RecAt H t e) : ∀ {l : List (Nat × Nat)} {ts : List Addr} (j : Nat), PrsT H l ts → PrsT H (l.set j e) (ts.set j t)
  | [], _, j, h => by subst h; exact rfl
  | x :: l, _, 0, ⟨t', r, e1, h1, h2⟩ => by subst e1; exact ⟨t, r, rfl, k, h2⟩
  | x :: l, _, j + 1, ⟨t', r, e1, h1, h2⟩ => by subst e1; exact ⟨t', r.set j t, rfl, h1, PrsT.set k j h2⟩
/-- the records of all keys: a tuple of tuples -/
def RcsAt (H : Hp) (t : Addr) (rs : List (Nat × Nat)) : Prop := ∃ ts, H t = some (.tup (ts.map V.ref)) ∧ PrsT H rs ts
theorem RcsAt.same (s : Same H H') {t : Addr} {rs : List (Nat × Nat)} (h : RcsAt H t rs) : RcsAt H' t rs := let ⟨ts, h1, h2⟩ := h; ⟨ts, s _ _ h1, h2.same s⟩
def vN (l : List Nat) : List V := l.map fun (n : Nat) => V.int (n : Int)
/-- whole numbers: a tuple -/
abbrev NsAt (H : Hp) (t : Addr) (l : List Nat) : Prop := H t = some (.tup (vN l))
def WdAt (H : Hp) (t : Addr) (w : Wd) : Prop := ∃ r q d, H t = some (.tup [.ref r, .ref q, .ref d]) ∧ RcsAt H r w.1 ∧ NsAt H q w.2.1 ∧ NsAt H d w.2.2
theorem WdAt.same (s : Same H H') {t : Addr} {w : Wd} (h : WdAt H t w) : WdAt H' t w := let ⟨r, q, d, h1, h2, h3, h4⟩ := h; ⟨r, q, d, s _ _ h1, h2.same s, s _ _ h3, s _ _ h4⟩
end
theorem vN_len (l : List Nat) : (vN l).length = l.length := by simp [vN]
theorem ixs_map {α β : Type} (p : α → Bool) (d : α) (f : α → β) (l : List α) : (ixs (fun i => p (l.getD i d)) l.length).map (fun i => f (l.getD i d)) = (l.filter p).map f := by
  have h : ∀ n, n ≤ l.length → (ixs (fun i => p (l.getD i d)) n).map (fun i => f (l.getD i d)) = ((l.take n).filter p).map f := by
    intro n
    induction n with
    | zero => intro _; simp [ixs]
    | succ n ih =>
      intro hn
      have hlt : n < l.length := hn
      have e : l.take (n + 1) = l.take n ++ [l[n]] := by rw [List.take_succ, List.getElem?_eq_getElem hlt]; rfl
      have e2 : l.getD n d = l[n] := by rw [List.getD_eq_getElem?_getD, List.getElem?_eq_getElem hlt]; rfl
      rw [ixs_succ, e, List.filter_append, List.map_append, List.map_append, ih (Nat.le_of_lt hlt)]
      congr 1
      rw [e2]
      cases hp : p l[n] with
      | true => simp only [List.filter_cons, List.filter_nil, hp, if_true, List.map_cons, List.map_nil, e2]
      | false => simp [hp]
  have := h l.length (Nat.le_refl _)
  rw [this, List.take_length]
theorem ixN_lt {n j : Nat} (hj : j < n) : ixN n (j : Int) = some j := by
  unfold ixN
  rw [if_pos (by omega), if_pos (by omega)]
  rfl
theorem recordOf_lt {s : R7289g.Spec.State} {k : Nat} (h : k < s.length) : s[k]? = some (recordOf s k) := by
  unfold recordOf
  rw [List.getD_eq_getElem?_getD, List.getElem?_eq_getElem h]
  rfl
section
variable {P : Program} {w : World} {K : PySem.W.Frag} {mg : Str → Option Value} {base : Heap} {a : Adr}
def spHold (a : Adr) : Sp := sp2 fun x y H Q E => ∃ (q t : Addr) (b : Batch) (rs : List (Nat × Nat)), x = .ref q ∧ y = .ref t ∧ BatAt a H q b ∧ RcsAt H t rs ∧ Bok rs.length b ∧ ∀ H', Same H H' → Q (.bl (b.holds rs)) H'
theorem c_does_hold (T : Txt K mg a) : Cal P w K mg base 1 "does_hold" (spHold a) := by
  refine cal T.d_does_hold sc_does_hold len2 fun f cdv A outer s H vs Q E hr h => ?_
  obtain ⟨_, _, rfl, q0, t0, b, rs, rfl, rfl, ⟨c, w0, ⟨dx, eb⟩, ⟨hcl, cs, ec, hct⟩, _⟩, ⟨ts, et, hts⟩, hok, q⟩ := h
  refine ⟨_, (pss_one (ps_ret (pe_callB (cr_all rfl) rfl T.b_all (by decide +kernel) (pa_cons (pe_lc (own := [("key", 2), ("version", 3)]) (g := (gTup K 2 (gCons (gName 2) (gCons (gName 3) gNil)))) (tt := tYes) rfl sc_does_hold.nd (pi_list (pe_f T.c_Batch.cl T.n_Batch_conditions (pv 0))) (blkOk_by (N := ["batch", "records", "key", "version"]) (sc := defScope s_does_hold) (by decide +kernel)) (fun _ _ _ _ _ => (pg_tup rfl (pgs_cons (pg_name (i := 2) sc_does_hold.nd rfl (Or.inl rfl)) (pgs_cons (pg_name (i := 3) sc_does_hold.nd rfl (Or.inl rfl)) pgs_nil)))) (fun _ _ _ _ _ => pts_nil) (fun _ _ _ _ _ => (pe_cmpR op_eq (pe_ix (show IxR _ (rIxT K) from ix_tup) (pe_ix (show IxR _ (rIxT K) from ix_tup) (pv 1) (pv 2) (fun _ _ => rfl)) pe_int (fun _ _ => rfl)) (pv 3) (nomark _)))) pa_nil)))), ?_⟩
  have hcn := hct.len
  refine ⟨_, rfl, q0, dx, _, _, rfl, eb, rfl, c, rfl, ⟨_, SqL.of ec⟩, fun D hD => lc_l (xs := cs.map V.ref) (G0 := H) (fun _ => true) (fun i y _ => y = .bl (versionOf rs (b.conditions.getD i (0, 0)).1 == (b.conditions.getD i (0, 0)).2)) (SqL.of ec) hD (Same.refl _) (by simp; omega) (fun i y G G' _ h => h) ?_ ?_⟩
  · intro i x G1 H1 hx gr Yes No k _
    obtain ⟨t, ht, rfl⟩ := get_ref hx
    obtain ⟨e, h2, h3⟩ := hct.get ht
    have hlt := hok.1 e (List.mem_of_getElem? h2)
    obtain ⟨t1, h4, h5⟩ := hts.at_ (recordOf_lt hlt)
    have h6 : (ts.map V.ref)[e.1]? = some (.ref t1) := by rw [List.getElem?_map, h4]; rfl
    refine ⟨t, _, rfl, SqT.of (gr.same _ _ h3), rfl, _, _, rfl, _, _, rfl, rfl, rfl, _, rfl, _, rfl, t0, _, _, _, rfl, rfl, SqT.of (gr.same _ _ et), atI_nat h6, t1, _, _, _, rfl, rfl, SqT.of (gr.same _ _ h5), atI_nat (j := 0) rfl, _, rfl, rfl, k rfl _ G1 H1 (Grow.refl gr.sub) ?_⟩
    rw [List.getD_eq_getElem?_getD, h2, Option.getD_some, decI]
    congr 1
    show decide (((versionOf rs e.1 : Nat) : Int) = ((e.2 : Nat) : Int)) = (versionOf rs e.1 == e.2)
    by_cases hh : versionOf rs e.1 = e.2
    · rw [hh]; simp
    · rw [decide_eq_false (by omega)]
      exact (beq_eq_false_iff_ne.mpr hh).symm
  · intro G2 H2 ys L
    have e5 : ys = (b.conditions.map fun c => versionOf rs c.1 == c.2).map V.bl := by
      rw [L.vals, List.length_map, hcn, List.map_map]
      exact range_map b.conditions (0, 0) (fun c => V.bl (versionOf rs c.1 == c.2))
    have eD := L.at_
    rw [e5] at eD
    refine ⟨D, _, rfl, SqL.of eD, ?_⟩
    have e6 : (b.conditions.map fun c => versionOf rs c.1 == c.2).all id = b.holds rs := by
      rw [List.all_map]
      rfl
    rw [e6]
    exact q H2 L.gr.same
def spWritten (a : Adr) : Sp := sp2 fun x y H Q E => ∃ (q t : Addr) (b : Batch) (rs : List (Nat × Nat)) (G : Hp), x = .ref q ∧ y = .ref t ∧ BatAt a H q b ∧ RcsAt G t rs ∧ Same G H ∧ Bok rs.length b ∧ rs.length ≤ 4 ∧
  ∀ G' H' p, Grow G H G' H' → H p = none → RcsAt G' p (b.apply rs) → Q (.ref p) H'
theorem c_written (T : Txt K mg a) : Cal P w K mg base 1 "written" (spWritten a) := by
  refine cal T.d_written sc_written len2 fun f cdv A outer s H vs Q E hr h => ?_
  obtain ⟨_, _, rfl, q0, t0, b, rs, G, rfl, rfl, ⟨c, w0, ⟨dx, eb⟩, _, ⟨hwl, ws, ew, hwt⟩⟩, ⟨ts, et, hts⟩, sG, hok, hn4, q⟩ := h
  refine ⟨_, (pss_cons (ps_set (i := 2) sc_written.nd rfl (Or.inl rfl) (pe_callTy call_list_of rfl T.b_list (by decide +kernel) (pa_cons (pv 1) pa_nil)))
    (pss_cons (ps_for PassesOwn.never rfl (pi_list (pe_f T.c_Batch.cl T.n_Batch_writes (pv 0))) (pg_tup rfl (pgs_cons (pg_name (i := 3) sc_written.nd rfl (Or.inl rfl)) (pgs_cons (pg_name (i := 4) sc_written.nd rfl (Or.inl rfl)) pgs_nil))) (pss_one (ps_asg (pe_tup (pa_cons (pe_op op_add (pe_ix ix_tup (pe_ix ix_list (pv 2) (pv 3) (fun _ _ => rfl)) pe_int (fun _ _ => rfl)) pe_int) (pa_cons (pv 4) pa_nil))) (pg_sub (pv 2) (pv 3) set_list))))
    (pss_one (ps_ret (pe_callTy call_tuple_of rfl T.b_tuple (by decide +kernel) (pa_cons (pv 2) pa_nil)))))), ?_⟩
  have hwn := hwt.len
  refine ⟨_, rfl, t0, _, rfl, .inr (SqT.of (sG _ _ et)), fun fo nfo => ?_⟩
  have gfo := sm_none sG nfo
  have s0 := sm_upd (o := .lst (ts.map V.ref)) nfo
  refine ⟨_, rfl, q0, dx, _, _, rfl, s0 _ _ eb, rfl, w0, rfl, ⟨_, SqL.of (s0 _ _ ew)⟩, for_list (xs := ws.map V.ref) (fun i σ HH => ∃ (us : List Addr) (v3 v4 : Option V) (G1 : Hp), σ = [some (.ref q0), some (.ref t0), some (.ref fo), v3, v4] ∧ Grow G H G1 HH ∧ G1 fo = none ∧ HH fo = some (.lst (us.map V.ref)) ∧ PrsT G1 ((b.writes.take i).foldl R7289g.Spec.write rs) us)
    ⟨ts, none, none, G, rfl, (Grow.refl sG).poke nfo gfo, gfo, upd_same, hts⟩ ?_ ?_ ?_⟩
  · rintro i σ HH _ ⟨us, v3, v4, G1, rfl, x1, g1, e1, e2⟩
    exact SqL.of (x1.same _ _ ew)
  · rintro i x σ HH hx ⟨us, v3, v4, G1, rfl, x1, g1, e1, e2⟩
    obtain ⟨t, ht, rfl⟩ := get_ref hx
    obtain ⟨e, h2, h3⟩ := hwt.get ht
    have hlt : e.1 < ((b.writes.take i).foldl R7289g.Spec.write rs).length := by rw [foldl_len]; exact hok.2 e (List.mem_of_getElem? h2)
    obtain ⟨t1, h4, h5⟩ := e2.at_ (recordOf_lt hlt)
    have h6 : (us.map V.ref)[e.1]? = some (.ref t1) := by rw [List.getElem?_map, h4]; rfl
    have hul : e.1 < (us.map V.ref).length := (List.getElem?_eq_some_iff.mp h6).1
    refine ⟨t, _, rfl, SqT.of (x1.same _ _ h3), rfl, _, _, rfl, _, _, rfl, rfl, _, rfl, _, rfl, fo, _, _, _, rfl, rfl, SqL.of e1, atI_nat h6, t1, _, _, _, rfl, rfl, SqT.of (x1.sub _ _ h5), atI_nat (j := 0) rfl, _, _, rfl, rfl, _, rfl, fit rfl, fun p np => ?_⟩
    have nfp : fo ≠ p := ne_of_none e1 np
    have gp := sm_none x1.sub np
    refine ⟨_, rfl, _, rfl, fo, _, _, e.1, rfl, rfl, sm_upd np _ _ e1, ixN_lt hul, ?_⟩
    have x2 := ((x1.loose (sm_upd (o := .tup [.int (((recordOf ((b.writes.take i).foldl R7289g.Spec.write rs) e.1).1 : Nat) + 1 : Int), .int (e.2 : Int)]) np)).keep upd_same (sm_none x1.same np) gp).poke (b := fo) (o := .lst ((us.map V.ref).set e.1 (.ref p))) nfo (by rw [upd_ne nfp]; exact g1)
    refine ⟨us.set e.1 p, _, _, _, rfl, x2, by rw [upd_ne nfp]; exact g1, by rw [upd_same, List.map_set], ?_⟩
    have e5 : b.writes.take (i + 1) = b.writes.take i ++ [e] := by rw [List.take_succ, h2]; rfl
    rw [e5, List.foldl_append]
    exact PrsT.set (e := (versionOf ((b.writes.take i).foldl R7289g.Spec.write rs) e.1 + 1, e.2)) upd_same e.1 (e2.same (sm_upd gp))
  · rintro σ HH ⟨us, v3, v4, G1, rfl, x1, g1, e1, e2⟩
    rw [List.length_map, hwn, List.take_length] at e2
    refine ⟨_, rfl, fo, _, rfl, .inl ⟨SqL.of e1, fun p np => ?_⟩⟩
    have gp := sm_none x1.sub np
    exact q _ _ p ((x1.loose (sm_upd (o := .tup (us.map V.ref)) np)).keep upd_same (sm_none x1.same np) gp) (sm_none x1.same np) ⟨us, upd_same, e2.same (sm_upd gp)⟩
end
end Zr
end
section
set_option maxRecDepth 100000
set_option maxHeartbeats 2000000
/-! Worlds: what an arrival makes. -/
namespace Zr
open PySem PySem.Spec PyProof.Rows L2 L2H
open Zp (oi)
open Zw (Wd)
open R7289g.Spec (Batch batchAt versionOf recordOf)
theorem cat_any {K : PySem.W.Frag} {a b : Addr} {xs ys : List V} {H : Hp} {Q : VK} (ha : SqT K H a xs) (hb : H b = some (.tup ys)) (hne : ys ≠ []) (hz : xs.length + ys.length ≤ 1000000) (q : ∀ H' p, Same H H' → H' p = some (.tup (xs ++ ys)) → (p = b ∨ H p = none) → Q (.ref p) H') : rCatA K (.ref a) (.ref b) H Q := by
  refine ⟨a, b, xs, ys, rfl, rfl, ha, SqT.of hb, by rw [sizeLine_eq]; omega, fun hx => ?_, fun _ hy => absurd hy hne, fun _ _ p np => ?_⟩
  · subst hx
    exact q H b (Same.refl _) hb (.inl rfl)
  · exact q _ p (sm_upd np) upd_same (.inr np)
theorem pw_lt {l : List Int} (h : l.Pairwise (· ≤ ·)) (n : l.Nodup) : l.Pairwise (· < ·) := by
  have := h.and (show l.Pairwise (· ≠ ·) from n)
  exact this.imp fun {a b} h => by have := h.1; have := h.2; omega
theorem cast_nodup {l : List Nat} (h : l.Nodup) : (l.map fun (n : Nat) => (n : Int)).Nodup := by
  show List.Pairwise _ _
  rw [List.pairwise_map]
  exact List.Pairwise.imp (fun {a b} h => by omega) (show l.Pairwise (· ≠ ·) from h)
theorem ins_eq {d : List Nat} {i : Nat} {ns' : List Int} (hd : d.Pairwise (· < ·)) (hi : i ∉ d) (hp : ns'.Perm ((d ++ [i]).map fun (n : Nat) => (n : Int))) (hs : ns'.Pairwise (· ≤ ·)) : ns' = (Zw.ins i d).map fun (n : Nat) => (n : Int) := by
  have nd : (d ++ [i]).Nodup := by
    rw [List.nodup_append]
    refine ⟨hd.imp fun {a b} h => by omega, by simp, fun a ha b hb => ?_⟩
    have : b = i := by simpa using hb
    subst this
    exact fun e => hi (e ▸ ha)
  have n' : ns'.Nodup := hp.nodup_iff.mpr (cast_nodup nd)
  refine Zw.sorted_ext (R := fun (a b : Int) => a < b) (fun a => Int.lt_irrefl a) (fun a b c => Int.lt_trans) (pw_lt hs n') ?_ fun x => ?_
  · rw [List.pairwise_map]
    exact (Zw.ins_sorted hd hi).imp fun {a b} h => by omega
  · rw [hp.mem_iff, List.mem_map, List.mem_map]
    constructor
    · rintro ⟨n, hn, rfl⟩
      refine ⟨n, Zw.mem_ins.mpr ?_, rfl⟩
      rcases List.mem_append.mp hn with h | h
      · exact .inr h
      · exact .inl (by simpa using h)
    · rintro ⟨n, hn, rfl⟩
      refine ⟨n, ?_, rfl⟩
      rcases Zw.mem_ins.mp hn with h | h
      · exact List.mem_append.mpr (.inr (by simpa using h))
      · exact List.mem_append.mpr (.inl h)
theorem EntsT.at_ {a : Adr} {H : Hp} : ∀ {l : List R7289g.Spec.Entry} {ts : List Addr} {i : Nat} {e : R7289g.Spec.Entry}, EntsT a H l ts → l[i]? = some e → ∃ t, ts[i]? = some t ∧ EntAt a H t e
  | [], _, i, _, h, k => by simp at k
  | x :: l, _, 0, e, ⟨t, r, e1, h1, h2⟩, k => by subst e1; cases k; exact ⟨t, rfl, h1⟩
  | x :: l, _, i + 1, e, ⟨t, r, e1, h1, h2⟩, k => by
    subst e1
    obtain ⟨t', h3, h4⟩ := EntsT.at_ h2 (i := i) (by simpa using k)
    exact ⟨t', by simpa using h3, h4⟩
/-- a world that is no stranger: so many keys, places few, those done ascending -/
structure Wok (n : Nat) (w : Wd) : Prop where
  len : w.1.length = n
  wl : w.2.1.length ≤ 8
  dl : w.2.2.length ≤ 8
  asc : w.2.2.Pairwise (· < ·)
section
variable {P : Program} {w : World} {K : PySem.W.Frag} {mg : Str → Option Value} {base : Heap} {a : Adr}
def spArrived (a : Adr) : Sp := sp3 fun x y z H Q E => ∃ (lg tw : Addr) (i n : Nat) (l : List R7289g.Spec.Entry) (b : Batch) (wd : Wd) (G : Hp), x = .ref lg ∧ y = .ref tw ∧ z = .int (i : Int) ∧ LogAt a H lg l ∧ WdAt G tw wd ∧ Same G H ∧ l[i]? = some (.lost b) ∧ Bok n b ∧ n ≤ 4 ∧ Wok n wd ∧ i ∉ wd.2.2 ∧
  ∀ G' H' p, Grow G H G' H' → H p = none → WdAt G' p (Zw.arr l wd i) → Q (.ref p) H'
theorem c_arrived (T : Txt K mg a) : Cal P w K mg base 2 "arrived" (spArrived a) := by
  refine cal T.d_arrived sc_arrived len3 fun f cdv A outer s H vs Q E hr h => ?_
  obtain ⟨_, _, _, rfl, lg, tw, i, n, l, b, wd, G, rfl, rfl, rfl, ⟨h8, ets, eL, hE⟩, ⟨tr, tq, td, etw, hrc, hq, hdn⟩, sG, hli, hb, hn4, ok, hid, q⟩ := h
  refine ⟨_, (pss_cons (ps_asg (pv 1) (pg_tup rfl (pgs_cons (pg_name (i := 3) sc_arrived.nd rfl (Or.inl rfl)) (pgs_cons (pg_name (i := 4) sc_arrived.nd rfl (Or.inl rfl)) (pgs_cons (pg_name (i := 5) sc_arrived.nd rfl (Or.inl rfl)) pgs_nil)))))
    (pss_cons (ps_set (i := 6) sc_arrived.nd rfl (Or.inl rfl) (pe_callTy call_tuple_of rfl T.b_tuple (by decide +kernel) (pa_cons (pe_lc (own := [("own", 8)]) (g := (gName 8)) rfl sc_arrived.nd (pi_tup (pv 4)) (blkOk_by (N := ["log", "world", "place", "records", "waiting", "done", "left", "batch", "own"]) (sc := defScope s_arrived) (by decide +kernel)) (fun _ _ _ _ _ => (pg_name (i := 8) sc_arrived.nd rfl (Or.inl rfl))) (fun _ _ _ _ _ => (pts_one (pt_cmpR op_ne (pv 8) (pv 2) (nomark _)))) (fun _ _ _ _ _ => (pv 8))) pa_nil)))
    (pss_cons (ps_set (i := 7) sc_arrived.nd rfl (Or.inl rfl) (pe_f T.c_Entry.cl T.n_Entry_batch (pe_ix ix_list (pv 0) (pv 2) (fun _ _ => rfl))))
    (pss_cons (ps_if (pt_val (pe_c (c_does_hold T) hr (by decide) rfl (pa_cons (pv 7) (pa_cons (pv 3) pa_nil)))) (pss_one (ps_ret (pe_tup (pa_cons (pe_c (c_written T) hr (by decide) rfl (pa_cons (pv 7) (pa_cons (pv 3) pa_nil))) (pa_cons (pv 6) (pa_cons (pe_callTy call_tuple_of rfl T.b_tuple (by decide +kernel) (pa_cons (pe_callB (cr_sortedTI hr) rfl T.b_sorted (by decide +kernel) (pa_cons (pe_op op_catA (pv 5) (pe_tup (pa_cons (pv 2) pa_nil))) pa_nil)) pa_nil)) pa_nil)))))) pss_nil)
    (pss_one (ps_ret (pe_tup (pa_cons (pv 3) (pa_cons (pv 6) (pa_cons (pv 5) pa_nil)))))))))), ?_⟩
  have hln := ok.len
  have hwl := ok.wl
  have hdl := ok.dl
  obtain ⟨te, h1, h2⟩ := hE.at_ hli
  obtain ⟨bq, bt, ⟨de, eE⟩, hB⟩ := (show ∃ q t, Ins H te a.entry (fEntry (.str sLost) (.ref q) (.bl false) (.int 0) (.ref t)) ∧ BatAt a H q b from h2)
  have h3 : (ets.map V.ref)[i]? = some (.ref te) := by rw [List.getElem?_map, h1]; rfl
  have hba : batchAt l i = b := by
    unfold batchAt
    rw [hli]
  refine ⟨_, rfl, tw, _, rfl, SqT.of (sG _ _ etw), rfl, _, _, rfl, _, _, rfl, _, _, rfl, rfl, ?_⟩
  refine ⟨_, rfl, tq, rfl, ⟨_, SqT.of (sG _ _ hq)⟩, fun D hD => lc_t (xs := vN wd.2.1) (G0 := G) (fun j => wd.2.1.getD j 0 != i) (fun j y _ => y = .int ((wd.2.1.getD j 0 : Nat) : Int)) (SqT.of (sG _ _ hq)) hD sG (by rw [vN_len]; omega) (fun i y G G' _ h => h) ?_ ?_⟩
  · intro j x G1 H1 hx gr Yes No k1 k2
    obtain ⟨m, hm, rfl⟩ : ∃ m, wd.2.1[j]? = some m ∧ x = .int (m : Int) := by
      unfold vN at hx
      rw [List.getElem?_map] at hx
      cases e : wd.2.1[j]? with
      | none => rw [e] at hx; cases hx
      | some t => rw [e] at hx; cases hx; exact ⟨t, rfl, rfl⟩
    have hg : wd.2.1.getD j 0 = m := by rw [List.getD_eq_getElem?_getD, hm]; rfl
    rw [hg] at k1 k2
    refine ⟨rfl, _, rfl, _, rfl, rfl, _, rfl, ?_⟩
    rw [decI]
    by_cases hh : m = i
    · subst hh
      exact ifF (by simp) (k2 (by simp) _ (Same.refl _))
    · exact ifT (by rw [decide_eq_false (by omega)]; rfl) ⟨_, rfl, k1 (by simpa using hh) _ G1 H1 (Grow.refl gr.sub) rfl⟩
  intro G1 H1 ys L
  have e5 : ys = vN (wd.2.1.filter fun j => j != i) := by
    rw [L.valsF, vN_len]
    exact ixs_map (fun j => j != i) 0 (fun (m : Nat) => V.int (m : Int)) wd.2.1
  have eD := L.at_
  rw [e5] at eD
  refine ⟨D, _, rfl, .inl ⟨SqL.of eD, fun tl ntl => ?_⟩⟩
  have s1 := L.gr.same
  have s2 := s1.trans (sm_upd (o := .tup (vN (wd.2.1.filter fun j => j != i))) ntl)
  have gtl := sm_none L.gr.sub ntl
  have x2 := (L.gr.loose (sm_upd (o := .tup (vN (wd.2.1.filter fun j => j != i))) ntl)).keep upd_same (sm_none s1 ntl) gtl
  have hl2 : NsAt (upd G1 tl (.tup (vN (wd.2.1.filter fun j => j != i)))) tl (wd.2.1.filter fun j => j != i) := upd_same
  generalize upd G1 tl (.tup (vN (wd.2.1.filter fun j => j != i))) = G2 at x2 hl2
  generalize upd H1 tl (.tup (vN (wd.2.1.filter fun j => j != i))) = H2 at s2 x2 ⊢
  refine ⟨_, rfl, _, rfl, lg, _, _, _, rfl, rfl, SqL.of (s2 _ _ eL), atI_nat h3, te, de, _, _, rfl, s2 _ _ eE, rfl, ?_⟩
  refine ⟨_, rfl, _, rfl, _, _, rfl, bq, tr, b, wd.1, rfl, rfl, hB.same s2, hrc.same (sG.trans s2), by rw [hln]; exact hb, fun H3 s3 => ⟨_, rfl, ?_⟩⟩
  have x3 := x2.loose s3
  have ear : Zw.arr l wd i = if b.holds wd.1 = true then (b.apply wd.1, wd.2.1.filter (fun j => j != i), Zw.ins i wd.2.2) else (wd.1, wd.2.1.filter (fun j => j != i), wd.2.2) := by
    unfold Zw.arr
    rw [hba]
  rw [ear] at q
  cases hh : b.holds wd.1 with
  | true =>
    rw [hh, if_pos rfl] at q
    refine ifT rfl ⟨_, rfl, _, rfl, _, _, rfl, bq, tr, b, wd.1, G2, rfl, rfl, hB.same x3.same, hrc.same x3.up, x3.sub, by rw [hln]; exact hb, by omega, fun G4 H4 p4 x4 n4 r4 => ⟨_, rfl, _, rfl, _, rfl, fit rfl, fun t5 n5 => ?_⟩⟩
    have x34 := x3.trans x4
    have s5 := x34.same.trans (sm_upd (o := .tup [.int (i : Int)]) n5)
    refine cat_any (xs := vN wd.2.2) (ys := [.int (i : Int)]) (SqT.of (s5 _ _ (sG _ _ hdn))) upd_same (by simp) (by rw [vN_len]; simp; omega) fun H6 p6 s6 e6 _ => ?_
    refine ⟨p6, (wd.2.2 ++ [i]).map (fun (n : Nat) => (n : Int)), rfl, SqT.of ?_, fun ns' p7 hperm hsort n7 => ?_⟩
    · rw [e6]
      congr 2
      unfold vN
      rw [List.map_append, List.map_append, List.map_map]
      rfl
    have e7 := ins_eq ok.asc hid hperm hsort
    refine ⟨p7, _, rfl, .inl ⟨SqL.of upd_same, fun p8 n8 => ⟨fit rfl, fun p9 n9 => ?_⟩⟩⟩
    have s78 := (s6.trans (sm_upd (o := .lst (ns'.map V.int)) n7)).trans (sm_upd (o := .tup (ns'.map V.int)) n8)
    have x8 := (x34.loose ((sm_upd (o := .tup [.int (i : Int)]) n5).trans s78))
    have x8k := x8.keep (p := p8) (o := .tup (ns'.map V.int)) upd_same (sm_none (x34.same.trans ((sm_upd (o := .tup [.int (i : Int)]) n5).trans (s6.trans (sm_upd (o := .lst (ns'.map V.int)) n7)))) n8) (sm_none (x34.sub.trans ((sm_upd (o := .tup [.int (i : Int)]) n5).trans (s6.trans (sm_upd (o := .lst (ns'.map V.int)) n7)))) n8)
    have g8 : Same G4 (upd G4 p8 (.tup (ns'.map V.int))) := sm_upd (sm_none (x34.sub.trans ((sm_upd (o := .tup [.int (i : Int)]) n5).trans (s6.trans (sm_upd (o := .lst (ns'.map V.int)) n7)))) n8)
    have g9 := sm_none x8k.sub n9
    refine q _ _ p9 ((x8k.loose (sm_upd (o := .tup [.ref p4, .ref tl, .ref p8]) n9)).keep upd_same (sm_none x8k.same n9) g9) (sm_none x8k.same n9) ⟨p4, tl, p8, upd_same, ?_, ?_, ?_⟩
    · exact (r4.same g8).same (sm_upd g9)
    · exact sm_upd g9 _ _ (g8 _ _ (x4.up _ _ hl2))
    · refine sm_upd g9 _ _ ?_
      rw [upd_same, e7]
      unfold vN
      rw [List.map_map]
      rfl
  | false =>
    rw [hh, if_neg Bool.false_ne_true] at q
    refine ifF rfl (⟨_, rfl, _, rfl, _, rfl, fit rfl, fun p9 n9 => ?_⟩)
    have g9 := sm_none x3.sub n9
    exact q _ _ p9 ((x3.loose (sm_upd (o := .tup [.ref tr, .ref tl, .ref td]) n9)).keep upd_same (sm_none x3.same n9) g9) (sm_none x3.same n9) ⟨tr, tl, td, upd_same, (hrc.same x3.up).same (sm_upd g9), sm_upd g9 _ _ hl2, sm_upd g9 _ _ (x3.up _ _ hdn)⟩
end
end Zr
end
section
set_option maxRecDepth 100000
set_option maxHeartbeats 2000000
/-! Worlds: all that come of worlds by arrivals. -/
namespace Zr
open PySem PySem.Spec PyProof.Rows L2 L2H
open Zp (oi)
open Zw (Wd ReP)
open R7289g.Spec (Batch batchAt versionOf recordOf)
/-! ### worlds as keys -/
def kNs (l : List Nat) : List NestedKey := l.map fun (n : Nat) => .num (n : Int)
def kRs (l : List (Nat × Nat)) : List NestedKey := l.map fun e => .tup [.num (e.1 : Int), .num (e.2 : Int)]
def keyW (w : Wd) : NestedKey := .tup [.tup (kRs w.1), .tup (kNs w.2.1), .tup (kNs w.2.2)]
theorem kNs_inj : ∀ {l m : List Nat}, kNs l = kNs m → l = m
  | [], [], _ => rfl
  | [], _ :: _, h => by cases h
  | _ :: _, [], h => by cases h
  | x :: l, y :: m, h => by
    have h : NestedKey.num (x : Int) :: kNs l = NestedKey.num (y : Int) :: kNs m := h
    injection h with h1 h2
    injection h1 with h1
    rw [Int.ofNat.inj h1, kNs_inj h2]
theorem kRs_inj : ∀ {l m : List (Nat × Nat)}, kRs l = kRs m → l = m
  | [], [], _ => rfl
  | [], _ :: _, h => by cases h
  | _ :: _, [], h => by cases h
  | (x1, x2) :: l, (y1, y2) :: m, h => by
    have h : NestedKey.tup [.num (x1 : Int), .num (x2 : Int)] :: kRs l = NestedKey.tup [.num (y1 : Int), .num (y2 : Int)] :: kRs m := h
    injection h with h1 h2
    injection h1 with h1
    injection h1 with h1 h3
    injection h3 with h3 _
    injection h1 with h1
    injection h3 with h3
    rw [Int.ofNat.inj h1, Int.ofNat.inj h3, kRs_inj h2]
theorem keyW_inj {w x : Wd} (h : keyW w = keyW x) : w = x := by
  obtain ⟨a, b, c⟩ := w
  obtain ⟨d, e, f⟩ := x
  unfold keyW at h
  injection h with h
  injection h with h1 h
  injection h with h2 h
  injection h with h3 _
  injection h1 with h1
  injection h2 with h2
  injection h3 with h3
  have h1 := kRs_inj h1
  have h2 := kNs_inj h2
  have h3 := kNs_inj h3
  simp only at h1 h2 h3
  rw [h1, h2, h3]
theorem dep_ns : ∀ l : List Nat, NestedKey.depthAll (kNs l) = 0
  | [] => rfl
  | x :: l => by
    show max 0 (NestedKey.depthAll (kNs l)) = 0
    rw [dep_ns l]
    rfl
theorem dep_rs : ∀ l : List (Nat × Nat), NestedKey.depthAll (kRs l) ≤ 1
  | [] => Nat.zero_le _
  | x :: l => by
    show max 1 (NestedKey.depthAll (kRs l)) ≤ 1
    have := dep_rs l
    omega
theorem dep_w (w : Wd) : (keyW w).depth ≤ 8 := by
  show max (NestedKey.depthAll (kRs w.1) + 1) (max (NestedKey.depthAll (kNs w.2.1) + 1) (max (NestedKey.depthAll (kNs w.2.2) + 1) 0)) + 1 ≤ 8
  have := dep_rs w.1
  rw [dep_ns, dep_ns]
  omega
section
variable {H H' : Hp}
theorem nks_ns : ∀ l : List Nat, NKs H (kNs l) (vN l)
  | [] => .nil
  | x :: l => .cons (.num _) (nks_ns l)
theorem nk_rec {t : Addr} {e : Nat × Nat} (h : RecAt H t e) : NK H (.tup [.num (e.1 : Int), .num (e.2 : Int)]) (.ref t) := .tup h (.cons (.num _) (.cons (.num _) .nil))
theorem nks_rs : ∀ {l : List (Nat × Nat)} {ts : List Addr}, PrsT H l ts → NKs H (kRs l) (ts.map V.ref)
  | [], _, h => by subst h; exact .nil
  | e :: l, _, ⟨t, r, e1, h1, h2⟩ => by
    subst e1
    exact .cons (nk_rec h1) (nks_rs h2)
theorem nk_rcs {t : Addr} {rs : List (Nat × Nat)} (h : RcsAt H t rs) : NK H (.tup (kRs rs)) (.ref t) := let ⟨_, h1, h2⟩ := h; .tup h1 (nks_rs h2)
theorem nk_w {t : Addr} {w : Wd} (h : WdAt H t w) : NK H (keyW w) (.ref t) :=
  let ⟨_, _, _, h1, h2, h3, h4⟩ := h
  .tup h1 (.cons (nk_rcs h2) (.cons (.tup h3 (nks_ns _)) (.cons (.tup h4 (nks_ns _)) .nil)))
/-- worlds at these places -/
def WdsT (H : Hp) : List Wd → List Addr → Prop
  | [], ts => ts = []
  | w :: l, ts => ∃ t r, ts = t :: r ∧ WdAt H t w ∧ WdsT H l r
theorem WdsT.same (s : Same H H') : ∀ {l : List Wd} {ts : List Addr}, WdsT H l ts → WdsT H' l ts
  | [], _, h => h
  | e :: l, _, ⟨t, r, e1, h1, h2⟩ => ⟨t, r, e1, h1.same s, WdsT.same s h2⟩
theorem WdsT.len : ∀ {l : List Wd} {ts : List Addr}, WdsT H l ts → ts.length = l.length
  | [], _, h => by subst h; rfl
  | e :: l, _, ⟨t, r, e1, h1, h2⟩ => by subst e1; simp [WdsT.len h2]
theorem WdsT.get : ∀ {l : List Wd} {ts : List Addr} {i : Nat} {t : Addr}, WdsT H l ts → ts[i]? = some t → ∃ e, l[i]? = some e ∧ WdAt H t e
  | [], _, i, _, h, k => by subst h; simp at k
  | e :: l, _, 0, _, ⟨t, r, e1, h1, h2⟩, k => by subst e1; cases k; exact ⟨e, rfl, h1⟩
  | e :: l, _, i + 1, _, ⟨t, r, e1, h1, h2⟩, k => by
    subst e1
    obtain ⟨e', k1, k2⟩ := WdsT.get h2 (i := i) (by simpa using k)
    exact ⟨e', by simpa using k1, k2⟩
theorem WdsT.at_ : ∀ {l : List Wd} {ts : List Addr} {i : Nat} {e : Wd}, WdsT H l ts → l[i]? = some e → ∃ t, ts[i]? = some t ∧ WdAt H t e
  | [], _, i, _, h, k => by simp at k
  | x :: l, _, 0, e, ⟨t, r, e1, h1, h2⟩, k => by subst e1; cases k; exact ⟨t, rfl, h1⟩
  | x :: l, _, i + 1, e, ⟨t, r, e1, h1, h2⟩, k => by
    subst e1
    obtain ⟨t', h3, h4⟩ := WdsT.at_ h2 (i := i) (by simpa using k)
    exact ⟨t', by simpa using h3, h4⟩
theorem WdsT.snoc {t : Addr} {e : Wd} (k : WdAt H t e) : ∀ {l : List Wd} {ts : List Addr}, WdsT H l ts → WdsT H (l ++ [e]) (ts ++ [t])
  | [], _, h => by subst h; exact ⟨t, [], rfl, k, rfl⟩
  | x :: l, _, ⟨t', r, e1, h1, h2⟩ => by subst e1; exact ⟨t', r ++ [t], rfl, h1, WdsT.snoc k h2⟩
/-- the dict's entries -/
def entsOf (od : List Wd) (ot : List Addr) : List Ent := (od.zip ot).map fun x => (keyW x.1, x.2)
theorem ents_keys : ∀ {od : List Wd} {ot : List Addr}, WdsT H od ot → (entsOf od ot).map (·.1) = od.map keyW
  | [], _, h => by subst h; rfl
  | w :: l, _, ⟨t, r, e1, h1, h2⟩ => by
    subst e1
    show keyW w :: (entsOf l r).map (·.1) = _
    rw [ents_keys h2]
    rfl
theorem ents_ok : ∀ {od : List Wd} {ot : List Addr}, WdsT H od ot → EntOk H (entsOf od ot)
  | [], _, h => by subst h; exact fun x hx => nomatch hx
  | w :: l, _, ⟨t, r, e1, h1, h2⟩ => by
    subst e1
    intro x hx
    rcases List.mem_cons.mp (show x ∈ (keyW w, t) :: entsOf l r from hx) with rfl | hx
    · exact ⟨nk_w h1, dep_w w⟩
    · exact ents_ok h2 x hx
theorem ents_snoc {t : Addr} {e : Wd} : ∀ {od : List Wd} {ot : List Addr}, WdsT H od ot → entsOf od ot ++ [(keyW e, t)] = entsOf (od ++ [e]) (ot ++ [t])
  | [], _, h => by subst h; rfl
  | w :: l, _, ⟨t', r, e1, h1, h2⟩ => by
    subst e1
    show (keyW w, t') :: (entsOf l r ++ [(keyW e, t)]) = (keyW w, t') :: entsOf (l ++ [e]) (r ++ [t])
    rw [ents_snoc h2]
theorem key_in {w : Wd} {od : List Wd} {ot : List Addr} (h : WdsT H od ot) : (keyW w ∈ (entsOf od ot).map (·.1)) ↔ w ∈ od := by
  rw [ents_keys h, List.mem_map]
  exact ⟨fun ⟨x, hx, e⟩ => keyW_inj e ▸ hx, fun h => ⟨w, h, rfl⟩⟩
/-- a list of worlds -/
def WsAt (H : Hp) (p : Addr) (ws : List Wd) : Prop := ∃ ts, H p = some (.lst (ts.map V.ref)) ∧ WdsT H ws ts
theorem WsAt.same (s : Same H H') {p : Addr} {ws : List Wd} (h : WsAt H p ws) : WsAt H' p ws := let ⟨ts, h1, h2⟩ := h; ⟨ts, s _ _ h1, h2.same s⟩
end
/-- worlds that are no strangers, and few -/
structure WsOk (n : Nat) (l : List R7289g.Spec.Entry) (ws : List Wd) : Prop where
  fine : ∀ w ∈ ws, ∀ x, ReP l w x → Wok n x ∧ ∀ i ∈ x.2.1, i ∉ x.2.2 ∧ ∃ b, l[i]? = some (.lost b)
  few : ∀ xs : List Wd, xs.Nodup → (∀ x ∈ xs, ∃ w ∈ ws, ReP l w x) → xs.length ≤ 300000
/-- so far: each once, each comes of the worlds, all worlds are there; what comes of the first j is there -/
structure Far (l : List R7289g.Spec.Entry) (ws : List Wd) (od : List Wd) (j : Nat) : Prop where
  nd : od.Nodup
  from_ : ∀ x ∈ od, ∃ w ∈ ws, ReP l w x
  all : ∀ w ∈ ws, w ∈ od
  le : j ≤ od.length
  done : ∀ m x, m < j → od[m]? = some x → ∀ i ∈ x.2.1, Zw.arr l x i ∈ od
theorem Far.closed {l : List R7289g.Spec.Entry} {ws od : List Wd} (f : Far l ws od od.length) : Zw.Closed l ws od := by
  refine ⟨f.nd, fun x => ⟨f.from_ x, ?_⟩⟩
  rintro ⟨w, hw, h⟩
  have : ∀ {w x : Wd}, ReP l w x → w ∈ od → x ∈ od := by
    intro w x h
    induction h with
    | refl => exact id
    | step i hi _ ih =>
      intro hm
      obtain ⟨m, hm1, hm2⟩ := List.mem_iff_getElem.mp hm
      exact ih (f.done m _ hm1 (by rw [List.getElem?_eq_getElem hm1, hm2]) i hi)
  exact this h (f.all w hw)
/-- a further world -/
theorem Far.snoc {l : List R7289g.Spec.Entry} {ws od : List Wd} {j : Nat} (f : Far l ws od j) {y : Wd} (hy : y ∉ od) (hr : ∃ w ∈ ws, ReP l w y) : Far l ws (od ++ [y]) j := by
  refine ⟨?_, fun x hx => ?_, fun w hw => List.mem_append_left _ (f.all w hw), Nat.le_trans f.le (by simp), fun m x hm hx i hi => ?_⟩
  · rw [List.nodup_append]
    refine ⟨f.nd, by simp, fun a ha b hb => ?_⟩
    have : b = y := by simpa using hb
    subst this
    exact fun e => hy (e ▸ ha)
  · rcases List.mem_append.mp hx with h | h
    · exact f.from_ x h
    · have : x = y := by simpa using h
      subst this
      exact hr
  · rw [List.getElem?_append_left (by have := f.le; omega)] at hx
    exact List.mem_append_left _ (f.done m x hm hx i hi)
section
variable {P : Program} {w : World} {K : PySem.W.Frag} {mg : Str → Option Value} {base : Heap} {a : Adr}
def spWithArrivals (a : Adr) : Sp := sp2 fun x y H Q E => ∃ (lg tw : Addr) (n : Nat) (l : List R7289g.Spec.Entry) (ws : List Wd) (G : Hp), x = .ref lg ∧ y = .ref tw ∧ LogAt a H lg l ∧ WsAt G tw ws ∧ Same G H ∧ Lok n l ∧ n ≤ 4 ∧ WsOk n l ws ∧
  ∀ G' H' p od, Grow G H G' H' → H p = none → WsAt G' p od → Zw.Closed l ws od → Q (.ref p) H'
theorem c_with_arrivals (T : Txt K mg a) : Cal P w K mg base 3 "with_arrivals" (spWithArrivals a) := by
  refine cal T.d_with_arrivals sc_with_arrivals len2 fun f cdv A outer s H vs Q E hr h => ?_
  obtain ⟨_, _, rfl, lg, tw, n, l, ws, G, rfl, rfl, hlog, ⟨wt, ew, hwt⟩, sG, hlok, hn4, ok, q⟩ := h
  refine ⟨_, (pss_cons (ps_set (i := 2) sc_with_arrivals.nd rfl (Or.inl rfl) pe_dnewN)
    (pss_cons (ps_set (i := 3) sc_with_arrivals.nd rfl (Or.inl rfl) (pe_lst pa_nil))
    (pss_cons (ps_for PassesOwn.never rfl (pi_list (pv 1)) (pg_name (i := 4) sc_with_arrivals.nd rfl (Or.inl rfl)) (pss_one (ps_if (pt_cmpR (op_notInN hr.units) (pv 4) (pv 2) (by rfl)) (pss_cons (ps_asg pe_bl (pg_sub (pv 2) (pv 4) (set_putN hr.units)))
    (pss_one (ps_expr (pe_bm PySem.F.plainAttrs_list PySem.F.slot_list_append PySem.F.type_list_append mt_append (pv 3) (pa_cons (pv 4) pa_nil))))) pss_nil)))
    (pss_cons (ps_set (i := 5) sc_with_arrivals.nd rfl (Or.inl rfl) pe_int)
    (pss_cons (ps_while PassesOwn.never (pt_cmpR op_lt (pv 5) (pe_callB call_len_seq rfl T.b_len (by decide +kernel) (pa_cons (pv 3) pa_nil)) (nomark _)) (pss_cons (ps_for PassesOwn.never rfl (pi_tup (pe_ix ix_tup (pe_ix ix_list (pv 3) (pv 5) (fun _ _ => rfl)) pe_int (fun _ _ => rfl))) (pg_name (i := 6) sc_with_arrivals.nd rfl (Or.inl rfl)) (pss_cons (ps_set (i := 7) sc_with_arrivals.nd rfl (Or.inl rfl) (pe_c (c_arrived T) hr (by decide) rfl (pa_cons (pv 0) (pa_cons (pe_ix ix_list (pv 3) (pv 5) (fun _ _ => rfl)) (pa_cons (pv 6) pa_nil)))))
    (pss_one (ps_if (pt_cmpR (op_notInN hr.units) (pv 7) (pv 2) (by rfl)) (pss_cons (ps_asg pe_bl (pg_sub (pv 2) (pv 7) (set_putN hr.units)))
    (pss_one (ps_expr (pe_bm PySem.F.plainAttrs_list PySem.F.slot_list_append PySem.F.type_list_append mt_append (pv 3) (pa_cons (pv 7) pa_nil))))) pss_nil))))
    (pss_one (ps_aug (i := 5) sc_with_arrivals.nd rfl (Or.inl rfl) pe_int ip_add))))
    (pss_one (ps_ret (pv 3)))))))), ?_⟩
  have hwn := hwt.len
  intro fd nfd
  refine ⟨fit rfl, fun fo nfo => ?_⟩
  have nod : fo ≠ fd := fun z => by rw [z, upd_same] at nfo; cases nfo
  have nfo' : H fo = none := by rw [upd_ne nod] at nfo; exact nfo
  have gfd := sm_none sG nfd
  have gfo := sm_none sG nfo'
  have nod' : fd ≠ fo := fun z => nod z.symm
  have s0 : Same H (upd (upd H fd (dN P w fd [])) fo (.lst [])) := (sm_upd nfd).trans (sm_upd nfo)
  have hroom : ∀ {xs : List Wd}, xs.Nodup → (∀ x ∈ xs, ∃ w ∈ ws, ReP l w x) → xs.length < sizeLine := fun h1 h2 => by
    have := ok.few _ h1 h2
    rw [sizeLine_eq]
    omega
  refine ⟨_, rfl, tw, rfl, ⟨_, SqL.of (s0 _ _ (sG _ _ ew))⟩, for_list (xs := wt.map V.ref) (fun i σ HH => ∃ (od : List Wd) (ot : List Addr) (v4 : Option V), σ = [some (.ref lg), some (.ref tw), some (.ref fd), some (.ref fo), v4, none, none, none] ∧ Grow G H G HH ∧ HH fd = some (dN P w fd (entsOf od ot)) ∧ HH fo = some (.lst (ot.map V.ref)) ∧ WdsT G od ot ∧ od.Nodup ∧ ∀ x, x ∈ od ↔ x ∈ ws.take i)
    ⟨[], [], none, rfl, ((Grow.refl sG).poke nfd gfd).poke nfo' gfo, by rw [upd_ne nod', upd_same]; rfl, upd_same, rfl, List.nodup_nil, fun x => by simp⟩ ?_ ?_ ?_⟩
  · rintro i σ HH _ ⟨od, ot, v4, rfl, x1, e1, e2, e3, e4, e5⟩
    exact SqL.of (x1.sub _ _ ew)
  · rintro i x σ HH hx ⟨od, ot, v4, rfl, x1, e1, e2, e3, e4, e5⟩
    obtain ⟨t, ht, rfl⟩ := get_ref hx
    obtain ⟨wd, h2, h3⟩ := hwt.get ht
    have h3' := h3.same x1.sub
    have e3' := e3.same x1.sub
    have hmem : wd ∈ ws := List.mem_of_getElem? h2
    have htake : ws.take (i + 1) = ws.take i ++ [wd] := by rw [List.take_succ, h2]; rfl
    refine ⟨_, rfl, _, rfl, keyW wd, t, fd, entsOf od ot, rfl, rfl, e1, ents_ok e3', nk_w h3', dep_w wd, _, rfl, ?_⟩
    by_cases hin : wd ∈ od
    · refine ifF (by rw [decide_eq_true ((key_in e3').mpr hin)]; rfl) ⟨od, ot, _, rfl, x1, e1, e2, e3, e4, fun x => ?_⟩
      rw [htake, List.mem_append, e5]
      refine ⟨.inl, fun z => z.elim id fun z => ?_⟩
      have : x = wd := by simpa using z
      subst this
      exact (e5 x).mp hin
    · have hfr : ∀ x ∈ od, ∃ w ∈ ws, ReP l w x := fun x hx => ⟨x, List.mem_of_mem_take ((e5 x).mp hx), .refl x⟩
      have hlen := e3.len
      refine ifT (by rw [decide_eq_false (fun z => hin ((key_in e3').mp z))]; rfl) ⟨_, rfl, _, rfl, keyW wd, t, fd, entsOf od ot, rfl, rfl, rfl, e1, ents_ok e3', nk_w h3', dep_w wd, fun z => hin ((key_in e3').mp z), ?_, ?_⟩
      · have e6 : (entsOf od ot).length = od.length := by
          have := congrArg List.length (ents_keys e3')
          simpa using this
        rw [e6]
        exact hroom e4 hfr
      · refine ⟨_, rfl, .inl ⟨rfl, _, SqL.of (by rw [upd_ne nod]; exact e2)⟩, _, rfl, fo, _, _, rfl, rfl, by rw [upd_ne nod]; exact e2, ?_, od ++ [wd], ot ++ [t], _, rfl, (x1.poke nfd gfd).poke nfo' gfo, ?_, ?_, WdsT.snoc h3 e3, ?_, fun x => ?_⟩
        · rw [List.length_map, hlen]
          exact hroom e4 hfr
        · rw [upd_ne nod', upd_same, ents_snoc e3']
          rfl
        · rw [upd_same, List.map_append]
          rfl
        · rw [List.nodup_append]
          refine ⟨e4, by simp, fun a ha b hb => ?_⟩
          have : b = wd := by simpa using hb
          subst this
          exact fun e => hin (e ▸ ha)
        · rw [htake, List.mem_append, List.mem_append, e5]
  rintro σ HH ⟨od0, ot0, v4, rfl, x0, d1, d2, d3, d4, d5⟩
  rw [List.length_map, hwn, List.take_length] at d5
  -- what comes of them
  refine ⟨fun m σ HH => ∃ (j : Nat) (od : List Wd) (ot : List Addr) (v6 v7 : Option V) (G1 : Hp), m = 300001 - j ∧ σ = [some (.ref lg), some (.ref tw), some (.ref fd), some (.ref fo), v4, some (.int (j : Int)), v6, v7] ∧ Grow G H G1 HH ∧ G1 fd = none ∧ G1 fo = none ∧ HH fd = some (dN P w fd (entsOf od ot)) ∧ HH fo = some (.lst (ot.map V.ref)) ∧ WdsT G1 od ot ∧ Far l ws od j,
    ⟨_, 0, od0, ot0, none, none, G, rfl, rfl, x0, gfd, gfo, d1, d2, d3, ⟨d4, fun x hx => ⟨x, (d5 x).mp hx, .refl x⟩, fun w hw => (d5 w).mpr hw, Nat.zero_le _, fun m x hm => absurd hm (Nat.not_lt_zero _)⟩⟩, ?_⟩
  rintro m σ HH ⟨j, od, ot, v6, v7, G1, rfl, rfl, x1, g1, g2, e1, e2, e3, far⟩
  have hlen := e3.len
  refine ⟨_, rfl, _, rfl, fo, _, rfl, .inl (SqL.of e2), _, _, rfl, rfl, _, rfl, ?_⟩
  rw [List.length_map, hlen]
  by_cases hj : j < od.length
  rotate_left
  · refine ifF (decide_eq_false (by omega)) ?_
    have ej : j = od.length := by have := far.le; omega
    subst ej
    have e2' := e2
    refine ⟨_, rfl, q _ HH fo od (x1.keep e2 nfo' g2) nfo' ⟨ot, upd_same, e3.same (sm_upd g2)⟩ far.closed⟩
  have hfew := ok.few od far.nd far.from_
  refine ifT (decide_eq_true (by omega)) ⟨fun σ HH => ∃ (od : List Wd) (ot : List Addr) (v6 v7 : Option V) (G1 : Hp), σ = [some (.ref lg), some (.ref tw), some (.ref fd), some (.ref fo), v4, some (.int ((j + 1 : Nat) : Int)), v6, v7] ∧ Grow G H G1 HH ∧ G1 fd = none ∧ G1 fo = none ∧ HH fd = some (dN P w fd (entsOf od ot)) ∧ HH fo = some (.lst (ot.map V.ref)) ∧ WdsT G1 od ot ∧ Far l ws od (j + 1),
    fun σ' H' ⟨od', ot', a6, a7, G', b1, b2, b3, b4, b5, b6, b7, b8⟩ => ⟨300001 - (j + 1), by omega, j + 1, od', ot', a6, a7, G', rfl, b1, b2, b3, b4, b5, b6, b7, b8⟩, ?_⟩
  have hjx := List.getElem?_eq_getElem hj
  generalize od[j] = wd at hjx
  obtain ⟨t, ht, hwd⟩ := e3.at_ hjx
  obtain ⟨tr, tq, td, etw, hrc, hq, hdn⟩ := id hwd
  have hti : (ot.map V.ref)[j]? = some (.ref t) := by rw [List.getElem?_map, ht]; rfl
  obtain ⟨w0, hw0, hre⟩ := far.from_ wd (List.mem_of_getElem? hjx)
  obtain ⟨wok, wfine⟩ := ok.fine w0 hw0 wd hre
  refine ⟨_, rfl, _, rfl, fo, _, _, _, rfl, rfl, SqL.of e2, atI_nat hti, t, _, _, _, rfl, rfl, SqT.of (x1.sub _ _ etw), atI_nat (j := 1) rfl, tq, rfl, ⟨_, SqT.of (x1.sub _ _ hq)⟩, for_tup (xs := vN wd.2.1) (fun k σ HH => ∃ (od' : List Wd) (ot' : List Addr) (v6 v7 : Option V) (G2 : Hp), σ = [some (.ref lg), some (.ref tw), some (.ref fd), some (.ref fo), v4, some (.int (j : Int)), v6, v7] ∧ Grow G H G2 HH ∧ Same G1 G2 ∧ G2 fd = none ∧ G2 fo = none ∧ HH fd = some (dN P w fd (entsOf od' ot')) ∧ HH fo = some (.lst (ot'.map V.ref)) ∧ WdsT G2 od' ot' ∧ Far l ws od' j ∧ od'[j]? = some wd ∧ ∀ i ∈ wd.2.1.take k, Zw.arr l wd i ∈ od')
    ⟨od, ot, v6, v7, G1, rfl, x1, Same.refl _, g1, g2, e1, e2, e3, far, hjx, fun i hi => by simp at hi⟩ ?_ ?_ ?_⟩
  · rintro k σ HH _ ⟨od', ot', v6, v7, G2, rfl, x2, up, f1, f2, c1, c2, c3, c4, c5, c6⟩
    exact SqT.of (x2.sub _ _ (up _ _ hq))
  · rintro k x σ HH hx ⟨od', ot', v6, v7, G2, rfl, x2, up, f1, f2, c1, c2, c3, c4, c5, c6⟩
    obtain ⟨i, hi, rfl⟩ : ∃ m, wd.2.1[k]? = some m ∧ x = .int (m : Int) := by
      unfold vN at hx
      rw [List.getElem?_map] at hx
      cases e : wd.2.1[k]? with
      | none => rw [e] at hx; cases hx
      | some t => rw [e] at hx; cases hx; exact ⟨t, rfl, rfl⟩
    have him := List.mem_of_getElem? hi
    obtain ⟨hnd, b, hlb⟩ := wfine i him
    obtain ⟨t', ht', hwd'⟩ := c3.at_ c5
    have hti' : (ot'.map V.ref)[j]? = some (.ref t') := by rw [List.getElem?_map, ht']; rfl
    have hbok : Bok n b := hlok _ (List.mem_of_getElem? hlb)
    have hlen' := c3.len
    have htake : wd.2.1.take (k + 1) = wd.2.1.take k ++ [i] := by rw [List.take_succ, hi]; rfl
    refine ⟨_, rfl, _, rfl, _, rfl, fo, _, _, _, rfl, rfl, SqL.of c2, atI_nat hti', _, rfl, _, _, _, rfl, lg, t', i, n, l, b, wd, G2, rfl, rfl, rfl, hlog.same x2.same, hwd', x2.sub, hlb, hbok, hn4, wok, hnd, fun G3 H3 p3 x3 n3 r3 => ?_⟩
    have x23 := x2.trans x3
    have y1 : G3 fd = none := x3.new fd f1 (by rw [c1]; simp)
    have y2 : G3 fo = none := x3.new fo f2 (by rw [c2]; simp)
    have z1 := x3.same _ _ c1
    have z2 := x3.same _ _ c2
    have c3' := (c3.same x3.up)
    have c3'' := c3'.same x3.sub
    have r3' := r3.same x3.sub
    refine ⟨_, rfl, _, rfl, keyW (Zw.arr l wd i), p3, fd, entsOf od' ot', rfl, rfl, z1, ents_ok c3'', nk_w r3', dep_w _, _, rfl, ?_⟩
    by_cases hin : Zw.arr l wd i ∈ od'
    · refine ifF (by rw [decide_eq_true ((key_in c3'').mpr hin)]; rfl) ⟨od', ot', _, _, G3, rfl, x23, up.trans x3.up, y1, y2, z1, z2, c3', c4, c5, fun i' hi' => ?_⟩
      rw [htake] at hi'
      rcases List.mem_append.mp hi' with h | h
      · exact c6 i' h
      · have : i' = i := by simpa using h
        subst this
        exact hin
    · have hnew := c4.snoc hin ⟨w0, hw0, Zw.ReP.snoc hre him⟩
      refine ifT (by rw [decide_eq_false (fun z => hin ((key_in c3'').mp z))]; rfl) ⟨_, rfl, _, rfl, keyW (Zw.arr l wd i), p3, fd, entsOf od' ot', rfl, rfl, rfl, z1, ents_ok c3'', nk_w r3', dep_w _, fun z => hin ((key_in c3'').mp z), ?_, ?_⟩
      · have e6 : (entsOf od' ot').length = od'.length := by
          have := congrArg List.length (ents_keys c3'')
          simpa using this
        rw [e6]
        exact hroom c4.nd c4.from_
      · refine ⟨_, rfl, .inl ⟨rfl, _, SqL.of (by rw [upd_ne nod]; exact z2)⟩, _, rfl, fo, _, _, rfl, rfl, by rw [upd_ne nod]; exact z2, ?_, od' ++ [Zw.arr l wd i], ot' ++ [p3], _, _, G3, rfl, (x23.poke nfd y1).poke nfo' y2, up.trans x3.up, y1, y2, ?_, ?_, WdsT.snoc r3 c3', hnew, ?_, fun i' hi' => ?_⟩
        · rw [List.length_map, hlen']
          exact hroom c4.nd c4.from_
        · rw [upd_ne nod', upd_same, ents_snoc c3'']
          rfl
        · rw [upd_same, List.map_append]
          rfl
        · rw [List.getElem?_append_left (List.getElem?_eq_some_iff.mp c5).1]
          exact c5
        · rw [htake] at hi'
          rcases List.mem_append.mp hi' with h | h
          · exact List.mem_append_left _ (c6 i' h)
          · have : i' = i := by simpa using h
            subst this
            exact List.mem_append_right _ (by simp)
  · rintro σ HH ⟨od', ot', v6, v7, G2, rfl, x2, up, f1, f2, c1, c2, c3, c4, c5, c6⟩
    rw [vN_len, List.take_length] at c6
    refine ⟨_, rfl, _, _, rfl, rfl, od', ot', v6, v7, G2, rfl, x2, f1, f2, c1, c2, c3, c4.nd, c4.from_, c4.all, (List.getElem?_eq_some_iff.mp c5).1, fun m x hm hx i hi => ?_⟩
    by_cases hmj : m < j
    · exact c4.done m x hmj hx i hi
    · have : m = j := by omega
      subst this
      rw [c5] at hx
      cases hx
      exact c6 i hi
end
end Zr
end
section
set_option maxRecDepth 100000
set_option maxHeartbeats 2000000
/-! Worlds: behind an entry. -/
namespace Zr
open PySem PySem.Spec PyProof.Rows L2 L2H
open Zp (oi)
open Zw (Wd ReP)
open R7289g.Spec (Batch batchAt versionOf recordOf)
def w0 : Wd := ([], [], [])
theorem wds_of {G : Hp} : ∀ (ws : List Wd) (ys : List V), ys.length = ws.length → (∀ (j : Nat) y w, ys[j]? = some y → ws[j]? = some w → ∃ t, y = .ref t ∧ WdAt G t w) → ∃ ts : List Addr, ys = ts.map V.ref ∧ WdsT G ws ts
  | [], [], _, _ => ⟨[], rfl, rfl⟩
  | w :: ws, y :: ys, h, k => by
    obtain ⟨t, rfl, ht⟩ := k 0 y w rfl rfl
    obtain ⟨ts, rfl, hts⟩ := wds_of ws ys (by simpa using h) fun j y w h1 h2 => k (j + 1) y w h1 h2
    exact ⟨t :: ts, rfl, t, ts, rfl, ht, hts⟩
  | [], y :: ys, h, _ => by simp at h
  | w :: ws, [], h, _ => by simp at h
/-- what a comprehension over worlds leaves -/
theorem LcAt.worlds {G0 H1 : Hp} {D : Addr} {p : Wd → Bool} {f : Wd → Wd} {ws : List Wd} {G H : Hp} {ys : List V} {n : Nat} (hn : n = ws.length) (L : LcAt G0 H1 D (fun i => p (ws.getD i w0)) (fun i y G => ∃ t, y = .ref t ∧ WdAt G t (f (ws.getD i w0))) n G H ys) (hD : H1 D = none) :
    ∃ G', Grow G0 H1 G' H ∧ WsAt G' D ((ws.filter p).map f) := by
  subst hn
  have e := ixs_map p w0 f ws
  obtain ⟨ts, rfl, hts⟩ := wds_of (G := G) ((ws.filter p).map f) ys (by rw [L.len, ← e, List.length_map]) fun j y w h1 h2 => by
    obtain ⟨k, h3, t, rfl, h4⟩ := L.el j y h1
    rw [← e, List.getElem?_map, h3] at h2
    cases h2
    exact ⟨t, rfl, h4⟩
  exact ⟨_, L.gr.keep L.at_ hD L.gD, ts, upd_same, hts.same (sm_upd L.gD)⟩
theorem strT {x y : Str} (h : x = y) : decide (V.str x = V.str y) = true := decide_eq_true (by rw [h])
theorem strF {x y : Str} (h : x ≠ y) : decide (V.str x = V.str y) = false := decide_eq_false fun z => h (V.str.inj z)
theorem ne_al : sAnswered ≠ sLost := by decide +kernel
theorem ne_rl : sRead ≠ sLost := by decide +kernel
theorem ne_ra : sRead ≠ sAnswered := by decide +kernel
section
variable {P : Program} {w : World} {K : PySem.W.Frag} {mg : Str → Option Value} {base : Heap} {a : Adr}
def spBehind (a : Adr) : Sp := sp3 fun x y z H Q E => ∃ (lg tw : Addr) (i n : Nat) (l : List R7289g.Spec.Entry) (e : R7289g.Spec.Entry) (ws : List Wd) (G : Hp), x = .ref lg ∧ y = .int (i : Int) ∧ z = .ref tw ∧ LogAt a H lg l ∧ WsAt G tw ws ∧ Same G H ∧ l[i]? = some e ∧ Eok n e ∧ n ≤ 4 ∧ (∀ x ∈ ws, Wok n x) ∧ ws.length ≤ 300000 ∧
  ∀ G' H' p, Grow G H G' H' → H p = none → WsAt G' p (Zw.behindW i ws e) → Q (.ref p) H'
theorem c_behind (T : Txt K mg a) : Cal P w K mg base 2 "behind" (spBehind a) := by
  refine cal T.d_behind sc_behind len3 fun f cdv A outer s H vs Q E hr h => ?_
  obtain ⟨_, _, _, rfl, lg, tw, i, n, l, e, ws, G, rfl, rfl, rfl, ⟨h8, ets, eL, hE⟩, ⟨wt, ew, hwt⟩, sG, hli, heok, hn4, hok, hwz, q⟩ := h
  refine ⟨_, (pss_cons (ps_set (i := 3) sc_behind.nd rfl (Or.inr rfl) (pe_ix ix_list (pv 0) (pv 1) (fun _ _ => rfl)))
    (pss_cons (ps_if (pt_cmpR op_eq (pe_f T.c_Entry.cl T.n_Entry_form (pv 3)) (pe_gc rfl T.k_LOST) (nomark _)) (pss_one (ps_ret (pe_lc (own := [("records", 5), ("waiting", 6), ("done", 7)]) (g := (gTup K 3 (gCons (gName 5) (gCons (gName 6) (gCons (gName 7) gNil))))) (tt := tYes) rfl sc_behind.nd (pi_list (pv 2)) (blkOk_by (N := ["log", "place", "worlds", "entry", "found", "records", "waiting", "done", "later", "world"]) (sc := defScope s_behind) (by decide +kernel)) (fun _ _ _ _ _ => (pg_tup rfl (pgs_cons (pg_name (i := 5) sc_behind.nd rfl (Or.inl rfl)) (pgs_cons (pg_name (i := 6) sc_behind.nd rfl (Or.inl rfl)) (pgs_cons (pg_name (i := 7) sc_behind.nd rfl (Or.inl rfl)) pgs_nil))))) (fun _ _ _ _ _ => pts_nil) (fun _ _ _ _ _ => (pe_tup (pa_cons (pv 5) (pa_cons (pe_op (show OpR _ (binaryOp .Add) (rCatA K) from op_catA) (pv 6) (pe_tup (pa_cons (pv 1) pa_nil))) (pa_cons (pv 7) pa_nil)))))))) pss_nil)
    (pss_cons (ps_if (pt_cmpR op_eq (pe_f T.c_Entry.cl T.n_Entry_form (pv 3)) (pe_gc rfl T.k_ANSWERED) (nomark _)) (pss_cons (ps_set (i := 4) sc_behind.nd rfl (Or.inl rfl) (pe_lst pa_nil))
    (pss_cons (ps_for PassesOwn.never rfl (pi_list (pv 2)) (pg_tup rfl (pgs_cons (pg_name (i := 5) sc_behind.nd rfl (Or.inl rfl)) (pgs_cons (pg_name (i := 6) sc_behind.nd rfl (Or.inl rfl)) (pgs_cons (pg_name (i := 7) sc_behind.nd rfl (Or.inl rfl)) pgs_nil)))) (pss_one (ps_if (pt_cmpR op_eq (pe_c (c_does_hold T) hr (by decide) rfl (pa_cons (pe_f T.c_Entry.cl T.n_Entry_batch (pv 3)) (pa_cons (pv 5) pa_nil))) (pe_f T.c_Entry.cl T.n_Entry_effect (pv 3)) (nomark _)) (pss_cons (ps_set (i := 8) sc_behind.nd rfl (Or.inl rfl) (pe_ifExp (pt_val (pe_f T.c_Entry.cl T.n_Entry_effect (pv 3))) (pe_c (c_written T) hr (by decide) rfl (pa_cons (pe_f T.c_Entry.cl T.n_Entry_batch (pv 3)) (pa_cons (pv 5) pa_nil))) (pv 5)))
    (pss_one (ps_expr (pe_bm PySem.F.plainAttrs_list PySem.F.slot_list_append PySem.F.type_list_append mt_append (pv 4) (pa_cons (pe_tup (pa_cons (pv 8) (pa_cons (pv 6) (pa_cons (pv 7) pa_nil)))) pa_nil))))) pss_nil)))
    (pss_one (ps_ret (pv 4))))) pss_nil)
    (pss_one (ps_ret (pe_lc (own := [("world", 9)]) (g := (gName 9)) rfl sc_behind.nd (pi_list (pv 2)) (blkOk_by (N := ["log", "place", "worlds", "entry", "found", "records", "waiting", "done", "later", "world"]) (sc := defScope s_behind) (by decide +kernel)) (fun _ _ _ _ _ => (pg_name (i := 9) sc_behind.nd rfl (Or.inl rfl))) (fun _ _ _ _ _ => (pts_one (pt_cmpR (show OpR _ (compareOp .Eq) (rEqD K) from op_eqD hr.units) (pe_ix (show IxR _ (rIxT K) from ix_tup) (pe_ix (show IxR _ (rIxT K) from ix_tup) (pv 9) pe_int (fun _ _ => rfl)) (pe_f T.c_Entry.cl T.n_Entry_key (pv 3)) (fun _ _ => rfl)) (pe_f T.c_Entry.cl T.n_Entry_record (pv 3)) (nomark _)))) (fun _ _ _ _ _ => (pv 9)))))))), ?_⟩
  have hwn := hwt.len
  obtain ⟨te, h1, h2⟩ := hE.at_ hli
  have h3 : (ets.map V.ref)[i]? = some (.ref te) := by rw [List.getElem?_map, h1]; rfl
  refine ⟨_, rfl, _, rfl, lg, _, _, _, rfl, rfl, SqL.of eL, atI_nat h3, ?_⟩
  cases e with
  | lost b =>
    obtain ⟨bq, bt, ⟨de, eE⟩, hB⟩ := h2
    refine ⟨_, rfl, te, de, _, _, rfl, eE, rfl, rfl, _, rfl, ifT (strT rfl) ?_⟩
    refine ⟨_, rfl, tw, rfl, ⟨_, SqL.of (sG _ _ ew)⟩, fun D hD => lc_l (xs := wt.map V.ref) (G0 := G) (fun j => (fun _ => true) (ws.getD j w0)) (fun j y G' => ∃ t, y = .ref t ∧ WdAt G' t ((fun (w : Wd) => (w.1, w.2.1 ++ [i], w.2.2)) (ws.getD j w0))) (SqL.of (sG _ _ ew)) hD sG (by rw [List.length_map, hwn]; omega) ?_ ?_ ?_⟩
    · rintro j y G1 G2 s1 ⟨t, h4, h5⟩
      exact ⟨t, h4, h5.same s1⟩
    · intro j x G1 H1 hx gr Yes No k _
      obtain ⟨t, ht, rfl⟩ := get_ref hx
      obtain ⟨wd, h4, tr, tq, td, etw, hrc, hq, hdn⟩ := hwt.get ht
      have up := gr.same
      have hwok := hok wd (List.mem_of_getElem? h4)
      have hwl := hwok.wl
      refine ⟨t, _, rfl, SqT.of (up _ _ (sG _ _ etw)), rfl, _, _, rfl, _, _, rfl, _, _, rfl, rfl, rfl, _, rfl, _, rfl, _, rfl, fit rfl, fun p1 np1 => cat_any (xs := vN wd.2.1) (ys := [.int (i : Int)]) (SqT.of (sm_upd np1 _ _ (up _ _ (sG _ _ hq)))) upd_same (by simp) (by rw [vN_len]; simp; omega) fun H2 p2 s2 e2 hnew => ⟨_, rfl, fit rfl, fun p3 np3 => ?_⟩⟩
      have np2 : H1 p2 = none := by
        rcases hnew with h | h
        · rw [h]; exact np1
        · exact sm_none (sm_upd np1) h
      have s12 := (sm_upd (o := .tup [.int (i : Int)]) np1).trans s2
      have g2 := sm_none gr.sub np2
      have x2 := ((Grow.refl gr.sub).loose s12).keep (p := p2) e2 np2 g2
      have g3 := sm_none x2.sub np3
      have x3 := (x2.loose (sm_upd (o := .tup [.ref tr, .ref p2, .ref td]) np3)).keep upd_same (sm_none s12 np3) g3
      refine k rfl _ _ _ x3 ⟨p3, rfl, ?_⟩
      rw [List.getD_eq_getElem?_getD, h4]
      have up2 := (gr.up.trans (sm_upd (o := .tup (vN wd.2.1 ++ [.int (i : Int)])) g2)).trans (sm_upd (o := .tup [.ref tr, .ref p2, .ref td]) g3)
      refine ⟨tr, p2, td, upd_same, hrc.same up2, ?_, up2 _ _ hdn⟩
      refine sm_upd g3 _ _ ?_
      rw [upd_same]
      unfold vN
      rw [List.map_append]
      rfl
    · intro G1 H1 ys L
      obtain ⟨G2, x2, h4⟩ := L.worlds (p := fun _ => true) (f := fun (w : Wd) => (w.1, w.2.1 ++ [i], w.2.2)) (by rw [List.length_map, hwn]) hD
      have ht : ws.filter (fun _ => true) = ws := List.filter_eq_self.mpr fun _ _ => rfl
      rw [ht] at h4
      exact q G2 H1 D x2 hD h4
  | answered b ef =>
    obtain ⟨bq, bt, ⟨de, eE⟩, hB⟩ := h2
    refine ⟨_, rfl, te, de, _, _, rfl, eE, rfl, rfl, _, rfl, ifF (strF ne_al) ⟨_, rfl, te, de, _, _, rfl, eE, rfl, rfl, _, rfl, ifT (strT rfl) ?_⟩⟩
    refine ⟨fit rfl, fun fo nfo => ?_⟩
    have gfo := sm_none sG nfo
    have s0 := sm_upd (o := .lst []) nfo
    refine ⟨_, rfl, tw, rfl, ⟨_, SqL.of (s0 _ _ (sG _ _ ew))⟩, for_list (xs := wt.map V.ref) (fun k σ HH => ∃ (us : List Addr) (v5 v6 v7 v8 : Option V) (G1 : Hp), σ = [some (.ref lg), some (.int (i : Int)), some (.ref tw), some (.ref te), some (.ref fo), v5, v6, v7, v8, none] ∧ Grow G H G1 HH ∧ G1 fo = none ∧ HH fo = some (.lst (us.map V.ref)) ∧ WdsT G1 (Zw.behindW i (ws.take k) (.answered b ef)) us)
      ⟨[], none, none, none, none, G, rfl, (Grow.refl sG).poke nfo gfo, gfo, upd_same, rfl⟩ ?_ ?_ ?_⟩
    · rintro k σ HH _ ⟨us, v5, v6, v7, v8, G1, rfl, x1, g1, e1, e2⟩
      exact SqL.of (x1.same _ _ (sG _ _ ew))
    · rintro k x σ HH hx ⟨us, v5, v6, v7, v8, G1, rfl, x1, g1, e1, e2⟩
      obtain ⟨t, ht, rfl⟩ := get_ref hx
      obtain ⟨wd, h4, tr, tq, td, etw, hrc, hq, hdn⟩ := hwt.get ht
      have hwok := hok wd (List.mem_of_getElem? h4)
      have hb : Bok n b := heok
      have htake : ws.take (k + 1) = ws.take k ++ [wd] := by rw [List.take_succ, h4]; rfl
      have hstep : Zw.behindW i (ws.take (k + 1)) (.answered b ef) = Zw.behindW i (ws.take k) (.answered b ef) ++ if b.holds wd.1 == ef then [(if ef then b.apply wd.1 else wd.1, wd.2.1, wd.2.2)] else [] := by
        rw [htake]
        show ((ws.take k ++ [wd]).filter _).map _ = ((ws.take k).filter _).map _ ++ _
        rw [List.filter_append, List.map_append]
        congr 1
        cases hh : b.holds wd.1 == ef <;> simp [hh]
      rw [hstep]
      refine ⟨t, _, rfl, SqT.of (x1.same _ _ (sG _ _ etw)), rfl, _, _, rfl, _, _, rfl, _, _, rfl, rfl, ?_⟩
      refine ⟨_, rfl, te, de, _, _, rfl, x1.same _ _ eE, rfl, _, rfl, _, _, rfl, bq, tr, b, wd.1, rfl, rfl, hB.same x1.same, (hrc.same sG).same x1.same, by rw [hwok.len]; exact hb, fun H2 s2 => ⟨_, rfl, te, de, _, _, rfl, s2 _ _ (x1.same _ _ eE), rfl, rfl, _, rfl, ?_⟩⟩
      have x2 := x1.loose s2
      have dd : decide (V.bl (b.holds wd.1) = V.bl ef) = (b.holds wd.1 == ef) := by
        cases b.holds wd.1 <;> cases ef <;> rfl
      rw [dd]
      cases hh : b.holds wd.1 == ef with
      | false => exact ifF rfl ⟨us, _, _, _, _, G1, rfl, x2, g1, s2 _ _ e1, by rw [if_neg Bool.false_ne_true, List.append_nil]; exact e2⟩
      | true =>
        rw [if_pos rfl]
        have hul := e2.len
        have hbl : (Zw.behindW i (ws.take k) (.answered b ef)).length ≤ 300000 := by
          show (((ws.take k).filter _).map _).length ≤ _
          have h5 := List.length_filter_le (fun (w : Wd) => b.holds w.1 == ef) (ws.take k)
          have h6 := List.length_take_le k ws
          have h7 : (ws.take k).length ≤ ws.length := by rw [List.length_take]; omega
          rw [List.length_map]
          omega
        have fin : ∀ (G3 H3 : Hp) (p : Addr) (rs : List (Nat × Nat)), Grow G1 H2 G3 H3 → RcsAt G3 p rs → rs = (if ef then b.apply wd.1 else wd.1) → ∀ p4, H3 p4 = none → ∃ (us' : List Addr) (G5 : Hp),
            Grow G H G5 (upd (upd H3 p4 (.tup [.ref p, .ref tq, .ref td])) fo (.lst (us.map V.ref ++ [.ref p4]))) ∧ G5 fo = none ∧ us.map V.ref ++ [.ref p4] = us'.map V.ref ∧ WdsT G5 (Zw.behindW i (ws.take k) (.answered b ef) ++ [(if ef then b.apply wd.1 else wd.1, wd.2.1, wd.2.2)]) us' := by
          intro G3 H3 p rs x3 r3 hrs p4 n4
          have g3 : G3 fo = none := x3.new fo g1 (by rw [s2 _ _ e1]; simp)
          have nfp : fo ≠ p4 := ne_of_none (x3.same _ _ (s2 _ _ e1)) n4
          have g4 := sm_none x3.sub n4
          have x13 := x2.trans x3
          have x5 := ((x13.loose (sm_upd (o := .tup [.ref p, .ref tq, .ref td]) n4)).keep upd_same (sm_none x13.same n4) g4).poke (b := fo) (o := .lst (us.map V.ref ++ [.ref p4])) nfo (by rw [upd_ne nfp]; exact g3)
          have up5 := x3.up.trans (sm_upd (o := .tup [.ref p, .ref tq, .ref td]) g4)
          refine ⟨us ++ [p4], _, x5, by rw [upd_ne nfp]; exact g3, by rw [List.map_append]; rfl, ?_⟩
          rw [← hrs]
          exact WdsT.snoc (e := (rs, wd.2.1, wd.2.2)) ⟨p, tq, td, upd_same, r3.same (sm_upd g4), up5 _ _ (x1.up _ _ hq), up5 _ _ (x1.up _ _ hdn)⟩ (e2.same up5)
        refine ifT rfl ⟨_, rfl, te, de, _, _, rfl, s2 _ _ (x1.same _ _ eE), rfl, _, rfl, ?_⟩
        cases ef with
        | true =>
          refine ifT rfl ⟨_, rfl, te, de, _, _, rfl, s2 _ _ (x1.same _ _ eE), rfl, _, rfl, _, _, rfl, bq, tr, b, wd.1, G1, rfl, rfl, hB.same (x1.same.trans s2), hrc.same x1.up, x2.sub, by rw [hwok.len]; exact hb, by rw [hwok.len]; exact hn4, fun G3 H3 p x3 n3 r3 => ?_⟩
          refine ⟨_, rfl, .inl ⟨rfl, _, SqL.of (x3.same _ _ (s2 _ _ e1))⟩, _, rfl, _, rfl, _, rfl, fit rfl, fun p4 n4 => ⟨fo, _, _, rfl, rfl, sm_upd n4 _ _ (x3.same _ _ (s2 _ _ e1)), by rw [List.length_map, hul, sizeLine_eq]; omega, ?_⟩⟩
          obtain ⟨us', G5, f1, f2, f3, f4⟩ := fin G3 H3 p _ x3 r3 rfl p4 n4
          exact ⟨us', _, _, _, _, G5, rfl, f1, f2, by rw [upd_same, f3], f4⟩
        | false =>
          refine ifF rfl ⟨_, rfl, ?_⟩
          refine ⟨_, rfl, .inl ⟨rfl, _, SqL.of (s2 _ _ e1)⟩, _, rfl, _, rfl, _, rfl, fit rfl, fun p4 n4 => ⟨fo, _, _, rfl, rfl, sm_upd n4 _ _ (s2 _ _ e1), by rw [List.length_map, hul, sizeLine_eq]; omega, ?_⟩⟩
          obtain ⟨us', G5, f1, f2, f3, f4⟩ := fin G1 H2 tr _ (Grow.refl x2.sub) (hrc.same x1.up) rfl p4 n4
          exact ⟨us', _, _, _, _, G5, rfl, f1, f2, by rw [upd_same, f3], f4⟩
    · rintro σ HH ⟨us, v5, v6, v7, v8, G1, rfl, x1, g1, e1, e2⟩
      rw [List.length_map, hwn, List.take_length] at e2
      exact ⟨_, rfl, q _ HH fo (x1.keep e1 nfo g1) nfo ⟨us, upd_same, e2.same (sm_upd g1)⟩⟩
  | read k r =>
    obtain ⟨t0, ⟨de, eE⟩, hR⟩ := h2
    have hk : k < n := heok
    refine ⟨_, rfl, te, de, _, _, rfl, eE, rfl, rfl, _, rfl, ifF (strF ne_rl) ⟨_, rfl, te, de, _, _, rfl, eE, rfl, rfl, _, rfl, ifF (strF ne_ra) ?_⟩⟩
    refine ⟨_, rfl, tw, rfl, ⟨_, SqL.of (sG _ _ ew)⟩, fun D hD => lc_l (xs := wt.map V.ref) (G0 := G) (fun j => (fun (w : Wd) => recordOf w.1 k == r) (ws.getD j w0)) (fun j y G' => ∃ t, y = .ref t ∧ WdAt G' t ((fun (w : Wd) => w) (ws.getD j w0))) (SqL.of (sG _ _ ew)) hD sG (by rw [List.length_map, hwn]; omega) ?_ ?_ ?_⟩
    · rintro j y G1 G2 s1 ⟨t, h4, h5⟩
      exact ⟨t, h4, h5.same s1⟩
    · intro j x G1 H1 hx gr Yes No k1 k2
      obtain ⟨t, ht, rfl⟩ := get_ref hx
      obtain ⟨wd, h4, hwd⟩ := hwt.get ht
      obtain ⟨tr, tq, td, etw, ⟨ts, ets2, hts⟩, hq, hdn⟩ := id hwd
      have hwok := hok wd (List.mem_of_getElem? h4)
      have hkl : k < wd.1.length := by rw [hwok.len]; exact hk
      obtain ⟨t1, h5, h6⟩ := hts.at_ (recordOf_lt hkl)
      have h7 : (ts.map V.ref)[k]? = some (.ref t1) := by rw [List.getElem?_map, h5]; rfl
      have up := sG.trans gr.same
      have hg : ws.getD j w0 = wd := by rw [List.getD_eq_getElem?_getD, h4]; rfl
      rw [hg] at k1 k2
      refine ⟨rfl, _, rfl, t, _, _, _, rfl, rfl, SqT.of (up _ _ etw), atI_nat (j := 0) rfl, _, rfl, te, de, _, _, rfl, gr.same _ _ eE, rfl, tr, _, _, _, rfl, rfl, SqT.of (up _ _ ets2), atI_nat h7, _, rfl, te, de, _, _, rfl, gr.same _ _ eE, rfl, _, _,
        Dp.tup (SqT.of (up _ _ h6)) (dpAll_ints [((recordOf wd.1 k).1 : Int), ((recordOf wd.1 k).2 : Int)]), Dp.tup (SqT.of (gr.same _ _ hR)) (dpAll_ints [(r.1 : Int), (r.2 : Int)]), shaped_intsT [((recordOf wd.1 k).1 : Int), ((recordOf wd.1 k).2 : Int)], shaped_intsT [(r.1 : Int), (r.2 : Int)], _, rfl, ?_⟩
      have ee : PyData.eqv (.tuple ([((recordOf wd.1 k).1 : Int), ((recordOf wd.1 k).2 : Int)].map PyData.int)) (.tuple ([(r.1 : Int), (r.2 : Int)].map PyData.int)) = (recordOf wd.1 k == r) := by
        show PyData.eqvAll _ _ = _
        rw [eqvAll_ints]
        obtain ⟨r1, r2⟩ := r
        obtain ⟨u1, u2⟩ := recordOf wd.1 k
        by_cases h : (u1, u2) = (r1, r2)
        · cases h; simp
        · have : ¬ [(u1 : Int), (u2 : Int)] = [(r1 : Int), (r2 : Int)] := fun z => h (by
            injection z with z1 z2
            injection z2 with z2 _
            rw [Int.ofNat.inj z1, Int.ofNat.inj z2])
          rw [decide_eq_false this]
          exact (beq_eq_false_iff_ne.mpr h).symm
      rw [ee]
      cases hh : recordOf wd.1 k == r with
      | true => exact ifT rfl ⟨_, rfl, k1 hh _ G1 H1 (Grow.refl gr.sub) ⟨t, rfl, hwd.same gr.up⟩⟩
      | false => exact ifF rfl (k2 hh _ (Same.refl _))
    · intro G1 H1 ys L
      obtain ⟨G2, x2, h4⟩ := L.worlds (p := fun (w : Wd) => recordOf w.1 k == r) (f := fun (w : Wd) => w) (by rw [List.length_map, hwn]) hD
      rw [List.map_id'] at h4
      exact q G2 H1 D x2 hD h4
end
end Zr
end
section
set_option maxRecDepth 100000
set_option maxHeartbeats 2000000
/-! Worlds: all worlds of a log. -/
namespace Zr
open PySem PySem.Spec PyProof.Rows L2 L2H
open Zp (oi)
open Zw (Wd ReP Rel Good stage ab)
open R7289g.Spec (Batch batchAt versionOf recordOf Scene lostPlaces)
/-! ### scenes have so many keys -/
theorem arrive_len (b : Batch) (s : R7289g.Spec.State) : (b.arrive s).length = s.length := by
  unfold Batch.arrive
  split
  · exact apply_len b s
  · rfl
theorem drift_len {l : List R7289g.Spec.Entry} {n : Nat} {s t : Scene} (h : Zw.ReS l s t) (hs : s.state.length = n) : t.state.length = n := by
  induction h with
  | refl => exact hs
  | step i hi _ ih => exact ih (by show ((batchAt l i).arrive _).length = n; rw [arrive_len]; exact hs)
theorem enter_len {i n : Nat} {v t : Scene} {e : R7289g.Spec.Entry} (h : R7289g.Spec.entered i v e = some t) (hv : v.state.length = n) : t.state.length = n := by
  cases e with
  | lost b => cases h; exact hv
  | answered b ef =>
    rw [R7289g.Spec.entered] at h
    split at h
    · cases h
      show (b.arrive v.state).length = n
      rw [arrive_len]
      exact hv
    · cases h
  | read k r =>
    rw [R7289g.Spec.entered] at h
    split at h
    · cases h; exact hv
    · cases h
theorem stage_keys {n : Nat} {l : List R7289g.Spec.Entry} : ∀ i, i ≤ l.length → ∀ s ∈ stage n l i, s.state.length = n
  | 0, _, s, hs => by
    have := List.mem_singleton.mp hs
    subst this
    exact List.length_replicate ..
  | i + 1, h, s, hs => by
    have hi : i < l.length := by omega
    rw [Zw.stage_succ (List.getElem?_eq_getElem hi)] at hs
    obtain ⟨w, hw, hs⟩ := List.mem_flatMap.mp hs
    obtain ⟨v, hv, e⟩ := List.mem_filterMap.mp hs
    exact enter_len e (drift_len (Zw.mem_drifted.mp hv) (stage_keys i (by omega) w hw))
/-- a good scene is no strange world -/
theorem wok_ab {l : List R7289g.Spec.Entry} {n k : Nat} {s : Scene} (h8 : l.length ≤ 8) (hk : k ≤ l.length) (g : Good l k s) (hl : s.state.length = n) : Wok n (ab l s) ∧ ∀ i ∈ (ab l s).2.1, i ∉ (ab l s).2.2 ∧ ∃ b, l[i]? = some (.lost b) := by
  refine ⟨⟨hl, ?_, ?_, Zw.doneOf_sorted _ _⟩, fun i hi => ⟨fun z => g.apart i hi (Zw.mem_doneOf.mp z).2, Zw.mem_lostPlaces.mp (g.lost i hi)⟩⟩
  · show s.alive.length ≤ 8
    have h := Zw.nodup_len (m := List.range 8) g.nd fun x hx => List.mem_range.mpr (by have := g.lt x hx; omega)
    rw [List.length_range] at h
    exact h
  · show ((lostPlaces l).filter _).length ≤ 8
    have h1 := List.length_filter_le (fun i => s.done.contains i) (lostPlaces l)
    have h2 : (lostPlaces l).length ≤ (List.range l.length).length := List.length_filter_le _ _
    rw [List.length_range] at h2
    omega
theorem lostIn_eq (l : List R7289g.Spec.Entry) : Zw.lostIn l = (l.filter isLostE).length := by
  unfold Zw.lostIn
  congr 2
theorem wsok_rel {l : List R7289g.Spec.Entry} {n k : Nat} {ws : List Wd} (h8 : l.length ≤ 8) (h5 : (l.filter isLostE).length ≤ 5) (hk : k ≤ l.length) (r : Rel l k ws (stage n l k)) : WsOk n l ws where
  fine := fun w hw x hx => by
    obtain ⟨s, hs, e⟩ := (r.mem w).mp hw
    obtain ⟨t, h1, h2⟩ := hx.back s (r.good s hs) e
    rw [← h2]
    exact wok_ab h8 hk (h1.good (r.good s hs)) (drift_len h1 (stage_keys k hk s hs))
  few := fun xs hn hx => Zw.order_len h8 (by rw [lostIn_eq]; exact h5) hk r hn hx
section
variable {P : Program} {w : World} {K : PySem.W.Frag} {mg : Str → Option Value} {base : Heap} {a : Adr}
/-- the worlds of a log -/
structure WoAll (n : Nat) (l : List R7289g.Spec.Entry) (ws : List Wd) : Prop where
  rel : Rel l l.length ws (R7289g.Spec.worlds n l)
  few : ws.length ≤ 300000
  fine : ∀ x ∈ ws, Wok n x ∧ ∀ i ∈ x.2.1, i ∉ x.2.2 ∧ ∃ b, l[i]? = some (.lost b)
def spWorldsOf (a : Adr) : Sp := sp2 fun x y H Q E => ∃ (lg : Addr) (n : Nat) (l : List R7289g.Spec.Entry) (G : Hp), x = .int (n : Int) ∧ y = .ref lg ∧ LogAt a H lg l ∧ Same G H ∧ Lok n l ∧ 1 ≤ n ∧ n ≤ 4 ∧ (l.filter isLostE).length ≤ 5 ∧
  ∀ G' H' p ws, Grow G H G' H' → H p = none → WsAt G' p ws → WoAll n l ws → Q (.ref p) H'
theorem flat_rep (n : Nat) (t : Addr) : (List.replicate n [V.ref t]).flatten = (List.replicate n t).map V.ref := by
  induction n with
  | zero => rfl
  | succ n ih => rw [List.replicate_succ, List.flatten_cons, ih, List.replicate_succ]; rfl
theorem prs_rep {H : Hp} {t : Addr} (h : RecAt H t (0, 0)) : ∀ n : Nat, PrsT H (List.replicate n (0, 0)) (List.replicate n t)
  | 0 => rfl
  | n + 1 => ⟨t, List.replicate n t, by rw [List.replicate_succ], h, prs_rep h n⟩
theorem c_worlds_of (T : Txt K mg a) : Cal P w K mg base 4 "worlds_of" (spWorldsOf a) := by
  refine cal T.d_worlds_of sc_worlds_of len2 fun f cdv A outer s H vs Q E hr h => ?_
  obtain ⟨_, _, rfl, lg, n, l, G, rfl, rfl, hlog, sG, hlok, hn1, hn4, h5, q⟩ := h
  refine ⟨_, (pss_cut (ps_set (i := 2) sc_worlds_of.nd rfl (Or.inl rfl) (pe_lst (pa_cons (pe_tup (pa_cons (pe_op op_repT1 (pe_tup (pa_cons (pe_tup (pa_cons pe_int (pa_cons pe_int pa_nil))) pa_nil)) (pv 0)) (pa_cons (pe_tup pa_nil) (pa_cons (pe_tup pa_nil) pa_nil)))) pa_nil)))
    (pss_cons (ps_for PassesOwn.never rfl (pi_range1 rfl T.b_range (pa_cons (pe_callB call_len_seq rfl T.b_len (by decide +kernel) (pa_cons (pv 1) pa_nil)) pa_nil)) (pg_name (i := 3) sc_worlds_of.nd rfl (Or.inl rfl)) (pss_one (ps_set (i := 2) sc_worlds_of.nd rfl (Or.inl rfl) (pe_c (c_behind T) hr (by decide) rfl (pa_cons (pv 1) (pa_cons (pv 3) (pa_cons (pe_c (c_with_arrivals T) hr (by decide) rfl (pa_cons (pv 1) (pa_cons (pv 2) pa_nil))) pa_nil)))))))
    (pss_one (ps_ret (pe_c (c_with_arrivals T) hr (by decide) rfl (pa_cons (pv 1) (pa_cons (pv 2) pa_nil))))))), ?_⟩
  have h8 := hlog.1
  refine ⟨fun σ HH => ∃ (t7 : Addr) (G7 : Hp), σ = [some (.int (n : Int)), some (.ref lg), some (.ref t7), none] ∧ H t7 = none ∧ Grow G H G7 HH ∧ WsAt G7 t7 [(List.replicate n (0, 0), [], [])], ?_, ?_⟩
  rotate_left
  · rintro σ HH ⟨t7, G7, rfl, n7, x7, r7⟩
    obtain ⟨_, lts, eL0, hEn⟩ := id hlog
    have eL := x7.same _ _ eL0
    have hln := hEn.len
    refine ⟨_, rfl, lg, _, rfl, .inl (SqL.of eL), _, rfl, by omega, by rw [List.length_map]; omega, ?_⟩
    rw [List.length_map, hln, Int.toNat_natCast]
    refine for_range (fun k σ HH => ∃ (fw : Addr) (v3 : Option V) (G1 : Hp) (ws : List Wd), σ = [some (.int (n : Int)), some (.ref lg), some (.ref fw), v3] ∧ H fw = none ∧ Grow G H G1 HH ∧ WsAt G1 fw ws ∧ Rel l k ws (stage n l k)) ⟨t7, none, G7, _, rfl, n7, x7, r7, Zw.stage_zero n l⟩ ?_ ?_
    · rintro k σ HH hk ⟨fw, v3, G1, ws, rfl, nw, x1, r1, rel⟩
      have hli := List.getElem?_eq_getElem hk
      have hwk := wsok_rel h8 h5 (Nat.le_of_lt hk) rel
      refine ⟨_, rfl, _, rfl, _, rfl, _, rfl, _, _, rfl, lg, fw, n, l, ws, G1, rfl, rfl, hlog.same x1.same, r1, x1.sub, hlok, hn4, hwk, fun G2 H2 p od x2 n2 r2 cl => ?_⟩
      have x12 := x1.trans x2
      have fine : ∀ x ∈ od, Wok n x := fun x hx => by
        obtain ⟨w0, hw0, hre⟩ := (cl.mem x).mp hx
        exact (hwk.fine w0 hw0 x hre).1
      refine ⟨_, _, _, rfl, lg, p, k, n, l, l[k], od, G2, rfl, (by rw [Int.zero_add]), rfl, hlog.same x12.same, r2, x12.sub, hli, hlok _ (List.getElem_mem hk), hn4, fine, hwk.few od cl.nd fun x hx => (cl.mem x).mp hx, fun G3 H3 p3 x3 n3 r3 => ?_⟩
      exact ⟨p3, _, G3, _, rfl, sm_none x12.same n3, x12.trans x3, r3, Zw.stage_rel hli rel cl⟩
    · rintro σ HH ⟨fw, v3, G1, ws, rfl, nw, x1, r1, rel⟩
      have hwk := wsok_rel h8 h5 (Nat.le_refl _) rel
      refine ⟨_, rfl, _, rfl, _, _, rfl, lg, fw, n, l, ws, G1, rfl, rfl, hlog.same x1.same, r1, x1.sub, hlok, hn4, hwk, fun G2 H2 p od x2 n2 r2 cl => ?_⟩
      refine q G2 H2 p od (x1.trans x2) (sm_none x1.same n2) r2 ⟨?_, hwk.few od cl.nd fun x hx => (cl.mem x).mp hx, fun x hx => ?_⟩
      · have := cl.rel rel
        rw [← Zw.worlds_stage] at this
        exact this
      · obtain ⟨w0, hw0, hre⟩ := (cl.mem x).mp hx
        exact hwk.fine w0 hw0 x hre
  refine ⟨fit rfl, fun t1 n1 => ⟨fit rfl, fun t2 n2 => ⟨_, rfl, ?_⟩⟩⟩
  have s1 := sm_upd (o := .tup [.int 0, .int 0]) n1
  have s2 := s1.trans (sm_upd (o := .tup [.ref t1]) n2)
  have x1 := (Grow.refl sG).loose s1
  have y1 := x1.keep (p := t1) upd_same n1 (sm_none sG n1)
  have hR : RecAt (upd G t1 (.tup [.int 0, .int 0])) t1 (0, 0) := upd_same
  generalize upd G t1 (.tup [.int 0, .int 0]) = G1 at y1 hR
  have y2 := y1.loose (sm_upd (o := .tup [.ref t1]) n2)
  -- the records of all keys
  have rest : ∀ (G3 H3 : Hp) (t3 : Addr), Grow G H G3 H3 → RcsAt G3 t3 (List.replicate n (0, 0)) → ∀ t4, H3 t4 = none → ∀ t5, (upd H3 t4 (.tup [])) t5 = none → ∀ t6, (upd (upd H3 t4 (.tup [])) t5 (.tup [])) t6 = none → ∀ t7, (upd (upd (upd H3 t4 (.tup [])) t5 (.tup [])) t6 (.tup [.ref t3, .ref t4, .ref t5])) t7 = none →
      ∃ G7, Grow G H G7 (upd (upd (upd (upd H3 t4 (.tup [])) t5 (.tup [])) t6 (.tup [.ref t3, .ref t4, .ref t5])) t7 (.lst [.ref t6])) ∧ WsAt G7 t7 [(List.replicate n (0, 0), [], [])] := by
    intro G3 H3 t3 x3 r3 t4 n4 t5 n5 t6 n6 t7 n7
    have g4 := sm_none x3.sub n4
    have x4 := (x3.loose (sm_upd (o := .tup []) n4)).keep upd_same (sm_none x3.same n4) g4
    have g5 := sm_none x4.sub n5
    have x5 := (x4.loose (sm_upd (o := .tup []) n5)).keep upd_same (sm_none x4.same n5) g5
    have g6 := sm_none x5.sub n6
    have x6 := (x5.loose (sm_upd (o := .tup [.ref t3, .ref t4, .ref t5]) n6)).keep upd_same (sm_none x5.same n6) g6
    have g7 := sm_none x6.sub n7
    have x7 := (x6.loose (sm_upd (o := .lst [.ref t6]) n7)).keep upd_same (sm_none x6.same n7) g7
    refine ⟨_, x7, [t6], upd_same, t6, [], rfl, ⟨t3, t4, t5, sm_upd g7 _ _ upd_same, ?_, ?_, ?_⟩, rfl⟩
    · exact (((r3.same (sm_upd g4)).same (sm_upd g5)).same (sm_upd g6)).same (sm_upd g7)
    · exact sm_upd g7 _ _ (sm_upd g6 _ _ (sm_upd g5 _ _ upd_same))
    · exact sm_upd g7 _ _ (sm_upd g6 _ _ upd_same)
  refine ⟨t2, (n : Int), [.ref t1], rfl, rfl, SqT.of upd_same, by simp, by omega, by omega, by simp, fun hk => ?_, fun hk t3 n3 => ?_⟩
  · have en : n = 1 := by omega
    subst en
    refine ⟨fit rfl, fun t4 n4 => ⟨fit rfl, fun t5 n5 => ⟨fit rfl, fun t6 n6 => ⟨fit rfl, fun t7 n7 => ?_⟩⟩⟩⟩
    have g2 := sm_none y1.sub n2
    obtain ⟨G7, a1, a2⟩ := rest _ _ t2 (y2.keep upd_same (sm_none s1 n2) g2) ⟨[t1], upd_same, (prs_rep hR 1).same (sm_upd g2)⟩ t4 n4 t5 n5 t6 n6 t7 n7
    exact ⟨t7, G7, rfl, sm_none s2 (sm_none (sm_upd n4) (sm_none (sm_upd n5) (sm_none (sm_upd n6) n7))), a1, a2⟩
  · refine ⟨fit rfl, fun t4 n4 => ⟨fit rfl, fun t5 n5 => ⟨fit rfl, fun t6 n6 => ⟨fit rfl, fun t7 n7 => ?_⟩⟩⟩⟩
    have g3 := sm_none y2.sub n3
    obtain ⟨G7, a1, a2⟩ := rest _ _ t3 ((y2.loose (sm_upd (o := .tup (List.replicate ((n : Int).toNat) [V.ref t1]).flatten) n3)).keep upd_same (sm_none s2 n3) g3) ⟨List.replicate n t1, by rw [upd_same, Int.toNat_natCast, flat_rep], (prs_rep hR n).same (sm_upd g3)⟩ t4 n4 t5 n5 t6 n6 t7 n7
    exact ⟨t7, G7, rfl, sm_none s2 (sm_none (sm_upd n3) (sm_none (sm_upd n4) (sm_none (sm_upd n5) (sm_none (sm_upd n6) n7)))), a1, a2⟩
end
end Zr
end
section
set_option maxRecDepth 100000
set_option maxHeartbeats 2000000
/-! Worlds: lost batches and their fates. -/
namespace Zr
open PySem PySem.Spec PyProof.Rows L2 L2H
open Zp (oi)
open Zw (Wd ReP Rel Good stage ab)
open R7289g.Spec (Batch batchAt versionOf recordOf Scene lostPlaces)
def mayW (l : List R7289g.Spec.Entry) (w : Wd) (i : Nat) : Bool := w.2.1.contains i && (batchAt l i).conditions.all fun c => decide (versionOf w.1 c.1 ≤ c.2)
/-! ### worlds and scenes -/
theorem rel_any {l : List R7289g.Spec.Entry} {k : Nat} {ws : List Wd} {ss : List Scene} (r : Rel l k ws ss) (p : Wd → Bool) : ws.any p = ss.any fun s => p (ab l s) := by
  rw [Bool.eq_iff_iff, List.any_eq_true, List.any_eq_true]
  constructor
  · rintro ⟨x, hx, h⟩
    obtain ⟨s, hs, rfl⟩ := (r.mem x).mp hx
    exact ⟨s, hs, h⟩
  · rintro ⟨s, hs, h⟩
    exact ⟨ab l s, (r.mem _).mpr ⟨s, hs, rfl⟩, h⟩
theorem rel_all {l : List R7289g.Spec.Entry} {k : Nat} {ws : List Wd} {ss : List Scene} (r : Rel l k ws ss) (p : Wd → Bool) : ws.all p = ss.all fun s => p (ab l s) := by
  rw [Bool.eq_iff_iff, List.all_eq_true, List.all_eq_true]
  constructor
  · intro h s hs
    exact h _ ((r.mem _).mpr ⟨s, hs, rfl⟩)
  · intro h x hx
    obtain ⟨s, hs, rfl⟩ := (r.mem x).mp hx
    exact h s hs
theorem open_w {l : List R7289g.Spec.Entry} {n : Nat} {ws : List Wd} (r : WoAll n l ws) (i : Nat) : (ws.any fun w => mayW l w i) = R7289g.Spec.isOpen n l i := rel_any r.rel _
theorem done_w {l : List R7289g.Spec.Entry} {s : Scene} {i : Nat} (hi : i ∈ lostPlaces l) : (ab l s).2.2.contains i = s.done.contains i := by
  rw [Bool.eq_iff_iff, List.contains_iff_mem, List.contains_iff_mem]
  show i ∈ Zw.doneOf l s.done ↔ _
  rw [Zw.mem_doneOf]
  exact ⟨fun h => h.2, fun h => ⟨hi, h⟩⟩
theorem lost_ixs (l : List R7289g.Spec.Entry) : lostPlaces l = ixs (fun i => isLostE (l.getD i (.read 0 (0, 0)))) l.length := by
  unfold lostPlaces ixs
  apply List.filter_congr
  intro i hi
  have hi := List.mem_range.mp hi
  rw [List.getD_eq_getElem?_getD, List.getElem?_eq_getElem hi]
  show _ = isLostE l[i]
  generalize l[i] = e
  cases e <;> rfl
theorem flat_vN (l : List Nat) : (vN l).all flatV = true := flat_nats l
theorem inV_vN (k : Nat) (l : List Nat) : inV (.int (k : Int)) (vN l) = l.contains k := inV_nats k l
section
variable {P : Program} {w : World} {K : PySem.W.Frag} {mg : Str → Option Value} {base : Heap} {a : Adr}
theorem LogAt.batch {a : Adr} {H : Hp} {lg : Addr} {l : List R7289g.Spec.Entry} {i : Nat} {b : Batch} (h : LogAt a H lg l) (hi : l[i]? = some (.lost b)) : ∃ (ets : List Addr) (te q de t : Addr), H lg = some (.lst (ets.map V.ref)) ∧ (ets.map V.ref)[i]? = some (.ref te) ∧
    H te = some (.ins a.entry de (fEntry (.str sLost) (.ref q) (.bl false) (.int 0) (.ref t))) ∧ BatAt a H q b := by
  obtain ⟨_, ets, eL, hE⟩ := h
  obtain ⟨te, h1, h2⟩ := hE.at_ hi
  obtain ⟨q, t, ⟨de, eE⟩, hB⟩ := h2
  exact ⟨ets, te, q, de, t, eL, by rw [List.getElem?_map, h1]; rfl, eE, hB⟩
def spMayStill (a : Adr) : Sp := sp3 fun x y z H Q E => ∃ (lg tw : Addr) (i n : Nat) (l : List R7289g.Spec.Entry) (b : Batch) (wd : Wd), x = .ref lg ∧ y = .ref tw ∧ z = .int (i : Int) ∧ LogAt a H lg l ∧ WdAt H tw wd ∧ l[i]? = some (.lost b) ∧ Bok n b ∧ Wok n wd ∧
  ∀ H', Same H H' → Q (.bl (mayW l wd i)) H'
theorem c_may_still (T : Txt K mg a) : Cal P w K mg base 1 "may_still" (spMayStill a) := by
  refine cal T.d_may_still sc_may_still len3 fun f cdv A outer s H vs Q E hr h => ?_
  obtain ⟨_, _, _, rfl, lg, tw, i, n, l, b, wd, rfl, rfl, rfl, hlog, ⟨tr, tq, td, etw, ⟨ts, et, hts⟩, hq, hdn⟩, hli, hb, ok, q⟩ := h
  refine ⟨_, (pss_cons (ps_asg (pv 1) (pg_tup rfl (pgs_cons (pg_name (i := 3) sc_may_still.nd rfl (Or.inr rfl)) (pgs_cons (pg_name (i := 4) sc_may_still.nd rfl (Or.inl rfl)) (pgs_cons (pg_name (i := 5) sc_may_still.nd rfl (Or.inl rfl)) pgs_nil)))))
    (pss_one (ps_ret (pe_and (pe_cmpR op_in_seq (pv 2) (pv 4) (by rfl)) (pe_one (pe_callB (cr_all rfl) rfl T.b_all (by decide +kernel) (pa_cons (pe_lc (own := [("key", 6), ("version", 7)]) (g := (gTup K 2 (gCons (gName 6) (gCons (gName 7) gNil)))) (tt := tYes) rfl sc_may_still.nd (pi_list (pe_f T.c_Batch.cl T.n_Batch_conditions (pe_f T.c_Entry.cl T.n_Entry_batch (pe_ix ix_list (pv 0) (pv 2) (fun _ _ => rfl))))) (blkOk_by (N := ["log", "world", "place", "records", "waiting", "done", "key", "version"]) (sc := defScope s_may_still) (by decide +kernel)) (fun _ _ _ _ _ => (pg_tup rfl (pgs_cons (pg_name (i := 6) sc_may_still.nd rfl (Or.inl rfl)) (pgs_cons (pg_name (i := 7) sc_may_still.nd rfl (Or.inl rfl)) pgs_nil)))) (fun _ _ _ _ _ => pts_nil) (fun _ _ _ _ _ => (pe_cmpR op_le (pe_ix (show IxR _ (rIxT K) from ix_tup) (pe_ix (show IxR _ (rIxT K) from ix_tup) (pv 3) (pv 6) (fun _ _ => rfl)) pe_int (fun _ _ => rfl)) (pv 7) (nomark _)))) pa_nil))))))), ?_⟩
  obtain ⟨ets, te, bq, de, bt, eL, h3, eE, ⟨c, w0, ⟨dx, eb⟩, ⟨hcl, cs, ec, hct⟩, _⟩⟩ := hlog.batch hli
  have hcn := hct.len
  have hba : batchAt l i = b := by
    unfold batchAt
    rw [hli]
  unfold mayW at q
  rw [hba] at q
  refine ⟨_, rfl, tw, _, rfl, SqT.of etw, rfl, _, _, rfl, _, _, rfl, _, _, rfl, rfl, ?_⟩
  refine ⟨_, rfl, _, rfl, tq, _, rfl, .inr (SqT.of hq), rfl, flat_vN _, _, rfl, ?_⟩
  have ein : (if false = true then !inV (.int (i : Int)) (vN wd.2.1) else inV (.int (i : Int)) (vN wd.2.1)) = wd.2.1.contains i := by
    rw [if_neg Bool.false_ne_true, inV_vN]
  rw [ein]
  cases hin : wd.2.1.contains i with
  | false =>
    rw [hin] at q
    exact ifF rfl (q H (Same.refl _))
  | true =>
    rw [hin] at q
    refine ifT rfl ⟨_, rfl, _, rfl, lg, _, _, _, rfl, rfl, SqL.of eL, atI_nat h3, te, de, _, _, rfl, eE, rfl, bq, dx, _, _, rfl, eb, rfl, c, rfl, ⟨_, SqL.of ec⟩, fun D hD => lc_l (xs := cs.map V.ref) (G0 := H) (fun _ => true) (fun j y _ => y = .bl (decide (versionOf wd.1 (b.conditions.getD j (0, 0)).1 ≤ (b.conditions.getD j (0, 0)).2))) (SqL.of ec) hD (Same.refl _) (by simp; omega) (fun i y G G' _ h => h) ?_ ?_⟩
    · intro j x G1 H1 hx gr Yes No k _
      obtain ⟨t, ht, rfl⟩ := get_ref hx
      obtain ⟨e, h2, h3⟩ := hct.get ht
      have hlt : e.1 < wd.1.length := by rw [ok.len]; exact hb.1 e (List.mem_of_getElem? h2)
      obtain ⟨t1, h4, h5⟩ := hts.at_ (recordOf_lt hlt)
      have h6 : (ts.map V.ref)[e.1]? = some (.ref t1) := by rw [List.getElem?_map, h4]; rfl
      refine ⟨t, _, rfl, SqT.of (gr.same _ _ h3), rfl, _, _, rfl, _, _, rfl, rfl, rfl, _, rfl, _, rfl, tr, _, _, _, rfl, rfl, SqT.of (gr.same _ _ et), atI_nat h6, t1, _, _, _, rfl, rfl, SqT.of (gr.same _ _ h5), atI_nat (j := 0) rfl, _, rfl, _, _, rfl, rfl, k rfl _ G1 H1 (Grow.refl gr.sub) ?_⟩
      rw [List.getD_eq_getElem?_getD, h2, Option.getD_some]
      show V.bl (decide (((versionOf wd.1 e.1 : Nat) : Int) ≤ ((e.2 : Nat) : Int))) = V.bl _
      congr 1
      exact decide_eq_decide.mpr Int.ofNat_le
    · intro G2 H2 ys L
      have e5 : ys = (b.conditions.map fun c => decide (versionOf wd.1 c.1 ≤ c.2)).map V.bl := by
        rw [L.vals, List.length_map, hcn, List.map_map]
        exact range_map b.conditions (0, 0) (fun c => V.bl (decide (versionOf wd.1 c.1 ≤ c.2)))
      have eD := L.at_
      rw [e5] at eD
      refine ⟨D, _, rfl, SqL.of eD, ?_⟩
      have e6 : (b.conditions.map fun c => decide (versionOf wd.1 c.1 ≤ c.2)).all id = b.conditions.all fun c => decide (versionOf wd.1 c.1 ≤ c.2) := by
        rw [List.all_map]
        rfl
      rw [e6]
      exact q H2 L.gr.same
def spIsOpen (a : Adr) : Sp := sp3 fun x y z H Q E => ∃ (lg tw : Addr) (i n : Nat) (l : List R7289g.Spec.Entry) (ws : List Wd), x = .ref lg ∧ y = .ref tw ∧ z = .int (i : Int) ∧ LogAt a H lg l ∧ WsAt H tw ws ∧ i ∈ lostPlaces l ∧ Lok n l ∧ WoAll n l ws ∧
  ∀ H', Same H H' → Q (.bl (R7289g.Spec.isOpen n l i)) H'
theorem lok_lost {n : Nat} {l : List R7289g.Spec.Entry} {i : Nat} (h : Lok n l) (hi : i ∈ lostPlaces l) : ∃ b, l[i]? = some (.lost b) ∧ Bok n b := by
  obtain ⟨b, hb⟩ := Zw.mem_lostPlaces.mp hi
  exact ⟨b, hb, h _ (List.mem_of_getElem? hb)⟩
theorem c_is_open (T : Txt K mg a) : Cal P w K mg base 2 "is_open" (spIsOpen a) := by
  refine cal T.d_is_open sc_is_open len3 fun f cdv A outer s H vs Q E hr h => ?_
  obtain ⟨_, _, _, rfl, lg, tw, i, n, l, ws, rfl, rfl, rfl, hlog, ⟨wt, ew, hwt⟩, hi, hlok, all, q⟩ := h
  refine ⟨_, (pss_one (ps_ret (pe_callB (cr_any rfl) rfl T.b_any (by decide +kernel) (pa_cons (pe_lc (own := [("world", 3)]) (g := (gName 3)) (tt := tYes) rfl sc_is_open.nd (pi_list (pv 1)) (blkOk_by (N := ["log", "worlds", "place", "world"]) (sc := defScope s_is_open) (by decide +kernel)) (fun _ _ _ _ _ => (pg_name (i := 3) sc_is_open.nd rfl (Or.inl rfl))) (fun _ _ _ _ _ => pts_nil) (fun _ _ _ _ _ => (pe_c (c_may_still T) hr (by decide) rfl (pa_cons (pv 0) (pa_cons (pv 3) (pa_cons (pv 2) pa_nil)))))) pa_nil)))), ?_⟩
  obtain ⟨b, hli, hb⟩ := lok_lost hlok hi
  have hwn := hwt.len
  have hf := all.few
  refine ⟨_, rfl, tw, rfl, ⟨_, SqL.of ew⟩, fun D hD => lc_l (xs := wt.map V.ref) (G0 := H) (fun _ => true) (fun j y _ => y = .bl (mayW l (ws.getD j w0) i)) (SqL.of ew) hD (Same.refl _) (by rw [List.length_map]; omega) (fun i y G G' _ h => h) ?_ ?_⟩
  · intro j x G1 H1 hx gr Yes No k _
    obtain ⟨t, ht, rfl⟩ := get_ref hx
    obtain ⟨wd, h2, h3⟩ := hwt.get ht
    refine ⟨rfl, _, rfl, _, rfl, _, rfl, _, _, _, rfl, lg, t, i, n, l, b, wd, rfl, rfl, rfl, hlog.same gr.same, h3.same gr.same, hli, hb, (all.fine wd (List.mem_of_getElem? h2)).1, fun H2 s2 => k rfl _ G1 H2 ((Grow.refl gr.sub).loose s2) ?_⟩
    rw [List.getD_eq_getElem?_getD, h2]
    rfl
  · intro G2 H2 ys L
    have e5 : ys = (ws.map fun w => mayW l w i).map V.bl := by
      rw [L.vals, List.length_map, hwn, List.map_map]
      exact range_map ws w0 (fun w => V.bl (mayW l w i))
    have eD := L.at_
    rw [e5] at eD
    refine ⟨D, _, rfl, SqL.of eD, ?_⟩
    have e6 : (ws.map fun w => mayW l w i).any id = R7289g.Spec.isOpen n l i := by
      rw [List.any_map, ← open_w all]
      rfl
    rw [e6]
    exact q H2 L.gr.same
def spLostPlaces (a : Adr) : Sp := sp1 fun x H Q E => ∃ (lg : Addr) (l : List R7289g.Spec.Entry), x = .ref lg ∧ LogAt a H lg l ∧ ∀ H' p, H p = none → Same H H' → H' p = some (.lst (vN (lostPlaces l))) → Q (.ref p) H'
theorem c_lost_places (T : Txt K mg a) : Cal P w K mg base 1 "lost_places" (spLostPlaces a) := by
  refine cal T.d_lost_places sc_lost_places len1 fun f cdv A outer s H vs Q E hr h => ?_
  obtain ⟨_, rfl, lg, l, rfl, ⟨h8, ets, eL, hE⟩, q⟩ := h
  refine ⟨_, (pss_one (ps_ret (pe_lc (own := [("place", 1), ("entry", 2)]) (g := (gTup K 2 (gCons (gName 1) (gCons (gName 2) gNil)))) rfl sc_lost_places.nd (pi_enum rfl T.b_enumerate (pa_cons (pv 0) pa_nil)) (blkOk_by (N := ["log", "place", "entry"]) (sc := defScope s_lost_places) (by decide +kernel)) (fun _ _ _ _ _ => (pg_tup rfl (pgs_cons (pg_name (i := 1) sc_lost_places.nd rfl (Or.inl rfl)) (pgs_cons (pg_name (i := 2) sc_lost_places.nd rfl (Or.inl rfl)) pgs_nil)))) (fun _ _ _ _ _ => (pts_one (pt_cmpR op_eq (pe_f T.c_Entry.cl T.n_Entry_form (pv 2)) (pe_gc rfl T.k_LOST) (nomark _)))) (fun _ _ _ _ _ => (pv 1))))), ?_⟩
  have hln := hE.len
  refine ⟨_, rfl, lg, _, rfl, SqL.of eL, fun D hD => lc_e (xs := ets.map V.ref) (G0 := H) (fun i => isLostE (l.getD i (.read 0 (0, 0)))) (fun i y _ => y = .int (i : Int)) (SqL.of eL) hD (Same.refl _) (by rw [List.length_map]; omega) (fun i y G G' _ h => h) ?_ ?_⟩
  · intro i x tt G1 H1 hx gr ntt Yes No k1 k2
    obtain ⟨t, ht, rfl⟩ := get_ref hx
    obtain ⟨e, h2, h3⟩ := hE.get ht
    obtain ⟨de, b, ef, k, r, eE⟩ := h3.ins
    have hg : l.getD i (.read 0 (0, 0)) = e := by rw [List.getD_eq_getElem?_getD, h2]; rfl
    rw [hg] at k1 k2
    have s1 := sm_upd (o := .tup [.int (i : Int), .ref t]) ntt
    refine ⟨tt, _, rfl, SqT.of upd_same, rfl, _, _, rfl, _, _, rfl, rfl, rfl, _, rfl, t, de, _, _, rfl, s1 _ _ (gr.same _ _ eE), rfl, rfl, _, rfl, ?_⟩
    have hf : decide (V.str (formOf e) = V.str (Str.ofString "lost")) = isLostE e := form_lost e
    rw [hf]
    cases hh : isLostE e with
    | true => exact ifT rfl ⟨_, rfl, k1 hh _ G1 _ ((Grow.refl gr.sub).loose s1) rfl⟩
    | false => exact ifF rfl (k2 hh _ s1)
  · intro G2 H2 ys L
    have e5 : ys = vN (lostPlaces l) := by
      rw [L.valsF, lost_ixs, List.length_map, hln]
      rfl
    have eD := L.at_
    rw [e5] at eD
    exact q H2 D hD L.gr.same eD
def fateS : R7289g.Spec.Fate → Str
  | .done => "done"
  | .never => "never"
  | .settled => "settled"
  | .still => "open"
theorem fate_s (f : R7289g.Spec.Fate) : cI (fateS f) = oi (oS (R7289g.Spec.fateText f)) ∧ (fateS f).cps.size ≤ 1000 := by
  cases f <;> decide +kernel
def spFateOf (a : Adr) : Sp := sp3 fun x y z H Q E => ∃ (lg tw : Addr) (i n : Nat) (l : List R7289g.Spec.Entry) (ws : List Wd), x = .ref lg ∧ y = .ref tw ∧ z = .int (i : Int) ∧ LogAt a H lg l ∧ WsAt H tw ws ∧ i ∈ lostPlaces l ∧ Lok n l ∧ WoAll n l ws ∧
  ∀ H', Same H H' → Q (.str (fateS (R7289g.Spec.fate n l i))) H'
theorem c_fate_of (T : Txt K mg a) : Cal P w K mg base 3 "fate_of" (spFateOf a) := by
  refine cal T.d_fate_of sc_fate_of len3 fun f cdv A outer s H vs Q E hr h => ?_
  obtain ⟨_, _, _, rfl, lg, tw, i, n, l, ws, rfl, rfl, rfl, hlog, ⟨wt, ew, hwt⟩, hi, hlok, all, q⟩ := h
  refine ⟨_, (pss_cons (ps_setLc (i := 3) (own := [("world", 4)]) (g := (gName 4)) (tt := tYes) rfl sc_fate_of.nd rfl rfl (sw_true rfl rfl rfl (by decide +kernel)) (pi_list (pv 1)) (blkOk_by (N := ["log", "worlds", "place", "effects", "world"]) (sc := defScope s_fate_of) (by decide +kernel)) (fun _ _ _ _ _ => (pg_name (i := 4) sc_fate_of.nd rfl (Or.inl rfl))) (fun _ _ _ _ _ => pts_nil) (fun _ _ _ _ _ => (pe_cmpR (show OpR _ (compareOp .In) (rIn K false) from op_in_seq) (pv 2) (pe_ix (show IxR _ (rIxT K) from ix_tup) (pv 4) pe_int (fun _ _ => rfl)) (by rfl))))
    (pss_cons (ps_if (pt_val (pe_callB (cr_all rfl) rfl T.b_all (by decide +kernel) (pa_cons (pv 3) pa_nil))) (pss_one (ps_ret pe_str)) pss_nil)
    (pss_cons (ps_if (pt_val (pe_c (c_is_open T) hr (by decide) rfl (pa_cons (pv 0) (pa_cons (pv 1) (pa_cons (pv 2) pa_nil))))) (pss_one (ps_ret pe_str)) pss_nil)
    (pss_one (ps_ret (pe_ifExp (pt_val (pe_callB (cr_any rfl) rfl T.b_any (by decide +kernel) (pa_cons (pv 3) pa_nil))) pe_str pe_str)))))), ?_⟩
  have hwn := hwt.len
  have hf := all.few
  refine ⟨_, rfl, tw, rfl, ⟨_, SqL.of ew⟩, fun D hD => lc_l (xs := wt.map V.ref) (G0 := H) (fun _ => true) (fun j y _ => y = .bl ((ws.getD j w0).2.2.contains i)) (SqL.of ew) hD (Same.refl _) (by rw [List.length_map]; omega) (fun i y G G' _ h => h) ?_ ?_⟩
  · intro j x G1 H1 hx gr Yes No k _
    obtain ⟨t, ht, rfl⟩ := get_ref hx
    obtain ⟨wd, h2, tr, tq, td, etw, hrc, hq, hdn⟩ := hwt.get ht
    refine ⟨rfl, _, rfl, _, rfl, t, _, _, _, rfl, rfl, SqT.of (gr.same _ _ etw), atI_nat (j := 2) rfl, td, _, rfl, .inr (SqT.of (gr.same _ _ hdn)), rfl, flat_vN _, k rfl _ G1 H1 (Grow.refl gr.sub) ?_⟩
    rw [List.getD_eq_getElem?_getD, h2]
    exact congrArg V.bl (inV_vN i _)
  intro G2 H2 ys L
  have e5 : ys = (ws.map fun w => w.2.2.contains i).map V.bl := by
    rw [L.vals, List.length_map, hwn, List.map_map]
    exact range_map ws w0 (fun w => V.bl (w.2.2.contains i))
  have eD := L.at_
  rw [e5] at eD
  have s2 := L.gr.same
  have ea : (ws.map fun w => w.2.2.contains i).all id = (R7289g.Spec.worlds n l).all fun s => s.done.contains i := by
    rw [List.all_map]
    show (ws.all fun w => w.2.2.contains i) = _
    rw [rel_all all.rel]
    congr 1
    funext s
    exact done_w hi
  have eo : (ws.map fun w => w.2.2.contains i).any id = (R7289g.Spec.worlds n l).any fun s => s.done.contains i := by
    rw [List.any_map]
    show (ws.any fun w => w.2.2.contains i) = _
    rw [rel_any all.rel]
    congr 1
    funext s
    exact done_w hi
  unfold R7289g.Spec.fate at q
  refine ⟨_, rfl, D, _, rfl, SqL.of eD, _, rfl, ?_⟩
  rw [ea]
  cases ha : (R7289g.Spec.worlds n l).all fun s => s.done.contains i with
  | true =>
    rw [ha] at q
    exact ifT rfl (q H2 s2)
  | false =>
    rw [ha] at q
    refine ifF rfl ⟨_, rfl, _, rfl, _, rfl, _, _, _, rfl, lg, tw, i, n, l, ws, rfl, rfl, rfl, hlog.same s2, WsAt.same s2 ⟨wt, ew, hwt⟩, hi, hlok, all, fun H3 s3 => ⟨_, rfl, ?_⟩⟩
    cases ho : R7289g.Spec.isOpen n l i with
    | true =>
      rw [ho] at q
      exact ifT rfl (q H3 (s2.trans s3))
    | false =>
      rw [ho] at q
      refine ifF rfl ⟨_, rfl, D, _, rfl, SqL.of (s3 _ _ eD), _, rfl, ?_⟩
      rw [eo]
      cases hy : (R7289g.Spec.worlds n l).any fun s => s.done.contains i with
      | true =>
        rw [hy] at q
        exact ifT rfl (q H3 (s2.trans s3))
      | false =>
        rw [hy] at q
        exact ifF rfl (q H3 (s2.trans s3))
end
end Zr
end
section
set_option maxRecDepth 100000
set_option maxHeartbeats 2000000
/-! Worlds: the keys that settle. -/
namespace Zr
open PySem PySem.Spec PyProof.Rows L2 L2H
open Zp (oi)
open Zw (Wd ReP Rel Good stage ab)
open R7289g.Spec (Batch batchAt versionOf recordOf Scene lostPlaces choices hits openPlaces)
/-! ### plain -/
def rowStart (row : List Nat) : Nat := match row.getLast? with
  | some k => k + 1
  | none => 0
def nextRows (n : Nat) (row : List Nat) : List (List Nat) := (List.range (n - rowStart row)).map fun i => row ++ [rowStart row + i]
theorem rows_next : ∀ n : Fin 5, ∀ j : Fin 5, (choices n.val 0 n.val j.val).flatMap (nextRows n.val) = choices n.val 0 n.val (j.val + 1) ∧ (choices n.val 0 n.val (j.val + 1)).length ≤ 100 ∧ (choices n.val 0 n.val j.val).length ≤ 100 := by decide +kernel
theorem rows_full : ∀ n : Fin 5, choices n.val 0 n.val n.val = [List.range n.val] := by decide +kernel
theorem row_len : ∀ n : Fin 5, ∀ j : Fin 5, ∀ r ∈ choices n.val 0 n.val j.val, r.length ≤ 4 ∧ ∀ k ∈ r, k < n.val := by decide +kernel
def keysOf (n : Nat) (l : List R7289g.Spec.Entry) : List (List Nat) := (openPlaces n l).map fun i => (batchAt l i).conditions.map fun c => c.1
theorem hits_keys (n : Nat) (l : List R7289g.Spec.Entry) (ks : List Nat) : hits n l ks = (keysOf n l).all fun own => own.any fun k => ks.contains k := by
  unfold hits keysOf
  rw [List.all_map]
  congr 1
  funext i
  show _ = ((batchAt l i).conditions.map fun c => c.1).any _
  rw [List.any_map]
  rfl
theorem settle_none {n : Nat} {l : List R7289g.Spec.Entry} (h : (keysOf n l).any (fun own => decide (own.length = 0)) = true) : R7289g.Spec.settlingKeys n l = none := by
  unfold R7289g.Spec.settlingKeys
  rw [List.find?_eq_none]
  intro ks _ hh
  rw [hits_keys, List.all_eq_true] at hh
  obtain ⟨own, h1, h2⟩ := List.any_eq_true.mp h
  have h3 := hh own h1
  have h4 : own = [] := List.eq_nil_of_length_eq_zero (of_decide_eq_true h2)
  subst h4
  cases h3
theorem settle_some {n j : Nat} {l : List R7289g.Spec.Entry} {pre post : List (List Nat)} {r : List Nat} (hj : j ≤ n) (hlow : ∀ m < j, ∀ r ∈ choices n 0 n m, hits n l r = false) (hc : choices n 0 n j = pre ++ r :: post) (hpre : ∀ x ∈ pre, hits n l x = false) (hr : hits n l r = true) : R7289g.Spec.settlingKeys n l = some r := by
  unfold R7289g.Spec.settlingKeys
  have e : List.range (n + 1) = List.range j ++ j :: (List.range' (j + 1) (n - j)) := by
    rw [List.range_eq_range', List.range_eq_range']
    have h1 : n + 1 = j + (1 + (n - j)) := by omega
    rw [h1, ← List.range'_append_1, ← List.range'_append_1]
    simp
  rw [e, List.flatMap_append, List.flatMap_cons, hc, List.append_assoc, List.find?_append, List.find?_append]
  have n1 : ((List.range j).flatMap fun m => choices n 0 n m).find? (hits n l) = none := by
    rw [List.find?_eq_none]
    intro x hx
    obtain ⟨m, hm, hx⟩ := List.mem_flatMap.mp hx
    rw [hlow m (List.mem_range.mp hm) x hx]
    exact Bool.false_ne_true
  have n2 : pre.find? (hits n l) = none := by
    rw [List.find?_eq_none]
    intro x hx
    rw [hpre x hx]
    exact Bool.false_ne_true
  rw [n1, n2, List.cons_append, List.find?_cons, hr]
  rfl
/-! ### things at places -/
section
variable {α : Type} {R : Hp → Addr → α → Prop} {H H' : Hp}
def Each (R : Hp → Addr → α → Prop) (H : Hp) : List α → List Addr → Prop
  | [], ts => ts = []
  | w :: l, ts => ∃ t r, ts = t :: r ∧ R H t w ∧ Each R H l r
theorem Each.same (hm : ∀ t x, R H t x → R H' t x) : ∀ {l : List α} {ts : List Addr}, Each R H l ts → Each R H' l ts
  | [], _, h => h
  | e :: l, _, ⟨t, r, e1, h1, h2⟩ => ⟨t, r, e1, hm _ _ h1, Each.same hm h2⟩
theorem Each.len : ∀ {l : List α} {ts : List Addr}, Each R H l ts → ts.length = l.length
  | [], _, h => by subst h; rfl
  | e :: l, _, ⟨t, r, e1, h1, h2⟩ => by subst e1; simp [Each.len h2]
theorem Each.get : ∀ {l : List α} {ts : List Addr} {i : Nat} {t : Addr}, Each R H l ts → ts[i]? = some t → ∃ e, l[i]? = some e ∧ R H t e
  | [], _, i, _, h, k => by subst h; simp at k
  | e :: l, _, 0, _, ⟨t, r, e1, h1, h2⟩, k => by subst e1; cases k; exact ⟨e, rfl, h1⟩
  | e :: l, _, i + 1, _, ⟨t, r, e1, h1, h2⟩, k => by
    subst e1
    obtain ⟨e', k1, k2⟩ := Each.get h2 (i := i) (by simpa using k)
    exact ⟨e', by simpa using k1, k2⟩
theorem Each.app : ∀ {l m : List α} {ts us : List Addr}, Each R H l ts → Each R H m us → Each R H (l ++ m) (ts ++ us)
  | [], _, _, _, h, k => by subst h; exact k
  | x :: l, _, _, _, ⟨t', r, e1, h1, h2⟩, k => by subst e1; exact ⟨t', _, rfl, h1, Each.app h2 k⟩
theorem Each.of_list : ∀ (ws : List α) (ys : List V), ys.length = ws.length → (∀ (j : Nat) y w, ys[j]? = some y → ws[j]? = some w → ∃ t, y = .ref t ∧ R H t w) → ∃ ts : List Addr, ys = ts.map V.ref ∧ Each R H ws ts
  | [], [], _, _ => ⟨[], rfl, rfl⟩
  | w :: ws, y :: ys, h, k => by
    obtain ⟨t, rfl, ht⟩ := k 0 y w rfl rfl
    obtain ⟨ts, rfl, hts⟩ := Each.of_list ws ys (by simpa using h) fun j y w h1 h2 => k (j + 1) y w h1 h2
    exact ⟨t :: ts, rfl, t, ts, rfl, ht, hts⟩
  | [], y :: ys, h, _ => by simp at h
  | w :: ws, [], h, _ => by simp at h
end
/-- whole numbers: a list -/
abbrev LsAt (H : Hp) (t : Addr) (l : List Nat) : Prop := H t = some (.lst (vN l))
theorem vN_get {l : List Nat} {k : Nat} {x : V} (hx : (vN l)[k]? = some x) : ∃ m, l[k]? = some m ∧ x = .int (m : Int) := by
  unfold vN at hx
  rw [List.getElem?_map] at hx
  cases e : l[k]? with
  | none => rw [e] at hx; cases hx
  | some t => rw [e] at hx; cases hx; exact ⟨t, rfl, rfl⟩
section
variable {P : Program} {w : World} {K : PySem.W.Frag} {mg : Str → Option Value} {base : Heap} {a : Adr}
def spSettling (a : Adr) : Sp := sp3 fun x y z H Q E => ∃ (lg tw : Addr) (n : Nat) (l : List R7289g.Spec.Entry) (ws : List Wd), x = .int (n : Int) ∧ y = .ref lg ∧ z = .ref tw ∧ LogAt a H lg l ∧ WsAt H tw ws ∧ Lok n l ∧ 1 ≤ n ∧ n ≤ 4 ∧ WoAll n l ws ∧
  (R7289g.Spec.settlingKeys n l = none → ∀ H', Same H H' → Q .non H') ∧ ∀ ks, R7289g.Spec.settlingKeys n l = some ks → ks.length ≤ 4 → ∀ H' p, H p = none → Same H H' → LsAt H' p ks → Q (.ref p) H'
theorem c_settling_keys (T : Txt K mg a) : Cal P w K mg base 3 "settling_keys" (spSettling a) := by
  refine cal T.d_settling_keys sc_settling_keys len3 fun f cdv A outer s H vs Q E hr h => ?_
  obtain ⟨_, _, _, rfl, lg, tw, n, l, ws, rfl, rfl, rfl, hlog, hws, hlok, hn1, hn4, all, q0, q1⟩ := h
  refine ⟨_, (pss_cons (ps_set (i := 3) sc_settling_keys.nd rfl (Or.inl rfl) (pe_lst pa_nil))
    (pss_cons (ps_for PassesOwn.never rfl (pi_list (pe_c (c_lost_places T) hr (by decide) rfl (pa_cons (pv 1) pa_nil))) (pg_name (i := 4) sc_settling_keys.nd rfl (Or.inl rfl)) (pss_one (ps_if (pt_val (pe_c (c_is_open T) hr (by decide) rfl (pa_cons (pv 1) (pa_cons (pv 2) (pa_cons (pv 4) pa_nil))))) (pss_one (ps_expr (pe_bm PySem.F.plainAttrs_list PySem.F.slot_list_append PySem.F.type_list_append mt_append (pv 3) (pa_cons (pe_lc (own := [("key", 9), ("version", 10)]) (g := (gTup K 2 (gCons (gName 9) (gCons (gName 10) gNil)))) (tt := tYes) rfl sc_settling_keys.nd (pi_list (pe_f T.c_Batch.cl T.n_Batch_conditions (pe_f T.c_Entry.cl T.n_Entry_batch (pe_ix ix_list (pv 1) (pv 4) (fun _ _ => rfl))))) (blkOk_by (N := ["keys", "log", "worlds", "some", "place", "rows", "row", "longer", "start", "key", "version", "own"]) (sc := defScope s_settling_keys) (by decide +kernel)) (fun _ _ _ _ _ => (pg_tup rfl (pgs_cons (pg_name (i := 9) sc_settling_keys.nd rfl (Or.inl rfl)) (pgs_cons (pg_name (i := 10) sc_settling_keys.nd rfl (Or.inl rfl)) pgs_nil)))) (fun _ _ _ _ _ => pts_nil) (fun _ _ _ _ _ => (pv 9))) pa_nil)))) pss_nil)))
    (pss_cons (ps_if (pt_val (pe_callB (cr_any rfl) rfl T.b_any (by decide +kernel) (pa_cons (pe_lc (own := [("own", 11)]) (g := (gName 11)) (tt := tYes) rfl sc_settling_keys.nd (pi_list (pv 3)) (blkOk_by (N := ["keys", "log", "worlds", "some", "place", "rows", "row", "longer", "start", "key", "version", "own"]) (sc := defScope s_settling_keys) (by decide +kernel)) (fun _ _ _ _ _ => (pg_name (i := 11) sc_settling_keys.nd rfl (Or.inl rfl))) (fun _ _ _ _ _ => pts_nil) (fun _ _ _ _ _ => (pe_cmpR op_eq (pe_callB (show CallR _ (.builtin "len") (rLenK K) from call_len_seq) rfl T.b_len (by decide +kernel) (pa_cons (pv 11) pa_nil)) pe_int (nomark _)))) pa_nil))) (pss_one (ps_ret pe_non)) pss_nil)
    (pss_cons (ps_set (i := 5) sc_settling_keys.nd rfl (Or.inl rfl) (pe_lst (pa_cons (pe_tup pa_nil) pa_nil)))
    (pss_one (ps_while PassesOwn.never (pt_val pe_bl) (pss_cons (ps_for PassesOwn.never rfl (pi_list (pv 5)) (pg_name (i := 6) sc_settling_keys.nd rfl (Or.inr rfl)) (pss_one (ps_if (pt_val (pe_callB (cr_all rfl) rfl T.b_all (by decide +kernel) (pa_cons (pe_lc (own := [("own", 11)]) (g := (gName 11)) (tt := tYes) rfl sc_settling_keys.nd (pi_list (pv 3)) (blkOk_by (N := ["keys", "log", "worlds", "some", "place", "rows", "row", "longer", "start", "key", "version", "own"]) (sc := defScope s_settling_keys) (by decide +kernel)) (fun _ _ _ _ _ => (pg_name (i := 11) sc_settling_keys.nd rfl (Or.inl rfl))) (fun _ _ _ _ _ => pts_nil) (fun _ _ _ _ _ => (pe_callB (show CallR _ (.builtin "any") (rAny K) from cr_any rfl) rfl T.b_any (by decide +kernel) (pa_cons (pe_lc (own := [("key", 9)]) (g := (gName 9)) (tt := tYes) rfl sc_settling_keys.nd (show PI _ _ _ (iList K _) from pi_list (pv 11)) (blkOk_by (N := ["keys", "log", "worlds", "some", "place", "rows", "row", "longer", "start", "key", "version", "own"]) (sc := relS _ (defScope s_settling_keys)) (by decide +kernel)) (fun _ _ _ _ _ => (pg_name (i := 9) sc_settling_keys.nd rfl (Or.inl rfl))) (fun _ _ _ _ _ => pts_nil) (fun _ _ _ _ _ => (pe_cmpR (show OpR _ (compareOp .In) (rIn K false) from op_in_seq) (pv 9) (pv 6) (by rfl)))) pa_nil)))) pa_nil))) (pss_one (ps_ret (pe_callTy call_list_of rfl T.b_list (by decide +kernel) (pa_cons (pv 6) pa_nil)))) pss_nil)))
    (pss_cons (ps_set (i := 7) sc_settling_keys.nd rfl (Or.inl rfl) (pe_lst pa_nil))
    (pss_cons (ps_for PassesOwn.never rfl (pi_list (pv 5)) (pg_name (i := 6) sc_settling_keys.nd rfl (Or.inr rfl)) (pss_cut (ps_set (i := 8) sc_settling_keys.nd rfl (Or.inl rfl) (pe_ifExp (pt_cmpR op_gt (pe_callB call_len_seq rfl T.b_len (by decide +kernel) (pa_cons (pv 6) pa_nil)) pe_int (nomark _)) (pe_op op_add (pe_ix ix_tup (pv 6) (pe_un un_neg pe_int) (fun _ _ => rfl)) pe_int) pe_int))
    (pss_one (ps_expr (pe_bm PySem.F.plainAttrs_list PySem.F.slot_list_extend PySem.F.type_list_extend mt_extend (pv 7) (pa_cons (pe_lc (own := [("key", 9)]) (g := (gName 9)) (tt := tYes) rfl sc_settling_keys.nd (pi_range2 rfl T.b_range (pa_cons (pv 8) (pa_cons (pv 0) pa_nil))) (blkOk_by (N := ["keys", "log", "worlds", "some", "place", "rows", "row", "longer", "start", "key", "version", "own"]) (sc := defScope s_settling_keys) (by decide +kernel)) (fun _ _ _ _ _ => (pg_name (i := 9) sc_settling_keys.nd rfl (Or.inl rfl))) (fun _ _ _ _ _ => pts_nil) (fun _ _ _ _ _ => (pe_op (show OpR _ (binaryOp .Add) (rCatA K) from op_catA) (pv 6) (pe_tup (pa_cons (pv 9) pa_nil))))) pa_nil))))))
    (pss_one (ps_set (i := 5) sc_settling_keys.nd rfl (Or.inl rfl) (pv 7)))))))))))), ?_⟩
  have h8 := hlog.1
  have hlp8 : (lostPlaces l).length ≤ 8 := by
    have h2 : (lostPlaces l).length ≤ (List.range l.length).length := List.length_filter_le _ _
    rw [List.length_range] at h2
    omega
  refine ⟨fit rfl, fun so nso => ?_⟩
  have s0 := sm_upd (o := .lst []) nso
  refine ⟨_, rfl, _, rfl, lg, l, rfl, hlog.same s0, fun Ha lp nlp sa ela => ⟨lp, rfl, ⟨_, SqL.of ela⟩, ?_⟩⟩
  have sHa := s0.trans sa
  have ea : Ha so = some (.lst []) := sa _ _ upd_same
  have nlp' : H lp = none := sm_none s0 nlp
  have nls : lp ≠ so := fun z => by rw [z, upd_same] at nlp; cases nlp
  let In1 : Nat → L2.St → Hp → Prop := fun k σ HH => ∃ (us : List Addr) (v4 : Option V) (G1 : Hp), σ = [some (.int (n : Int)), some (.ref lg), some (.ref tw), some (.ref so), v4, none, none, none, none, none, none, none] ∧ Grow H H G1 HH ∧ G1 so = none ∧ HH lp = some (.lst (vN (lostPlaces l))) ∧ HH so = some (.lst (us.map V.ref)) ∧
    Each LsAt G1 ((((lostPlaces l).take k).filter (R7289g.Spec.isOpen n l)).map fun i => (batchAt l i).conditions.map fun c => c.1) us
  refine for_list (xs := vN (lostPlaces l)) In1 ⟨[], none, H, rfl, (Grow.refl (Same.refl H)).loose sHa, nso, ela, ea, rfl⟩ ?_ ?_ ?_
  · rintro k σ HH _ ⟨us, v4, G1, rfl, x1, g1, e0, e1, e2⟩
    exact SqL.of e0
  · rintro k x σ HH hx ⟨us, v4, G1, rfl, x1, g1, e0, e1, e2⟩
    obtain ⟨i, hi, rfl⟩ := vN_get hx
    have him := List.mem_of_getElem? hi
    obtain ⟨b, hli, hb⟩ := lok_lost hlok him
    have hba : batchAt l i = b := by
      unfold batchAt
      rw [hli]
    have htake : (lostPlaces l).take (k + 1) = (lostPlaces l).take k ++ [i] := by rw [List.take_succ, hi]; rfl
    have hul := e2.len
    have hkl : us.length ≤ 8 := by
      rw [hul, List.length_map]
      have h5 := List.length_filter_le (R7289g.Spec.isOpen n l) ((lostPlaces l).take k)
      have h6 : ((lostPlaces l).take k).length ≤ (lostPlaces l).length := by rw [List.length_take]; omega
      omega
    refine ⟨_, rfl, _, rfl, _, rfl, _, _, _, rfl, lg, tw, i, n, l, ws, rfl, rfl, rfl, hlog.same x1.same, hws.same x1.same, him, hlok, all, fun H2 s2 => ⟨_, rfl, ?_⟩⟩
    have x2 := x1.loose s2
    cases ho : R7289g.Spec.isOpen n l i with
    | false =>
      refine ifF rfl ⟨us, _, G1, rfl, x2, g1, s2 _ _ e0, s2 _ _ e1, ?_⟩
      rw [htake, List.filter_append]
      have hf : [i].filter (R7289g.Spec.isOpen n l) = [] := by simp [ho]
      rw [hf, List.append_nil]
      exact e2
    | true =>
      obtain ⟨ets, te, bq, de, bt, eL, h3, eE, ⟨c, w1, ⟨dx, eb⟩, ⟨hcl, cs, ec, hct⟩, _⟩⟩ := (hlog.same x2.same).batch hli
      have hcn := hct.len
      refine ifT rfl ⟨_, rfl, .inl ⟨rfl, _, SqL.of (s2 _ _ e1)⟩, _, rfl, _, rfl, lg, _, _, _, rfl, rfl, SqL.of eL, atI_nat h3, te, de, _, _, rfl, eE, rfl, bq, dx, _, _, rfl, eb, rfl, c, rfl, ⟨_, SqL.of ec⟩, fun D hD => lc_l (xs := cs.map V.ref) (G0 := G1) (fun _ => true) (fun j y _ => y = .int (((b.conditions.getD j (0, 0)).1 : Nat) : Int)) (SqL.of ec) hD x2.sub (by simp; omega) (fun i y G G' _ h => h) ?_ ?_⟩
      · intro j x G3 H3 hx gr Yes No k _
        obtain ⟨t, ht, rfl⟩ := get_ref hx
        obtain ⟨e, h4, h5⟩ := hct.get ht
        refine ⟨t, _, rfl, SqT.of (gr.same _ _ h5), rfl, _, _, rfl, _, _, rfl, rfl, rfl, _, rfl, k rfl _ G3 H3 (Grow.refl gr.sub) ?_⟩
        rw [List.getD_eq_getElem?_getD, h4]
        rfl
      · intro G3 H3 ys L
        have e5 : ys = vN (b.conditions.map fun e => e.1) := by
          rw [L.vals, List.length_map, hcn]
          unfold vN
          rw [List.map_map]
          exact range_map b.conditions (0, 0) (fun e => V.int ((e.1 : Nat) : Int))
        have eD := L.at_
        have nD := sm_none x2.same hD
        have x3 := (x2.trans L.gr).keep eD nD L.gD
        rw [e5] at eD x3
        have nds : D ≠ so := fun z => by rw [z, s2 _ _ e1] at hD; cases hD
        have g3 : G3 so = none := L.gr.new so g1 (by rw [s2 _ _ e1]; simp)
        have g3' : (upd G3 D (.lst (vN (b.conditions.map fun e => e.1)))) so = none := by rw [upd_ne (fun z => nds z.symm)]; exact g3
        refine ⟨so, _, _, rfl, rfl, L.gr.same _ _ (s2 _ _ e1), by rw [List.length_map, sizeLine_eq]; omega, us ++ [D], _, _, rfl, x3.poke nso g3', g3', ?_, by rw [upd_same, List.map_append]; rfl, ?_⟩
        · rw [upd_ne nls]
          exact L.gr.same _ _ (s2 _ _ e0)
        · rw [htake, List.filter_append, List.map_append]
          have hf : ([i].filter (R7289g.Spec.isOpen n l)).map (fun i => (batchAt l i).conditions.map fun c => c.1) = [b.conditions.map fun e => e.1] := by
            simp [ho, hba]
          rw [hf]
          refine Each.app (e2.same fun t x h => sm_upd L.gD _ _ (L.gr.up _ _ h)) ⟨D, [], rfl, upd_same, rfl⟩
  rintro σ H1 ⟨us, v4, G1, rfl, x1, g1, e0, e1, e2⟩
  rw [vN_len, List.take_length] at e2
  have e2 : Each LsAt G1 (keysOf n l) us := e2
  have hul := e2.len
  have hkl : us.length ≤ 8 := by
    rw [hul]
    unfold keysOf openPlaces
    rw [List.length_map]
    have h5 := List.length_filter_le (R7289g.Spec.isOpen n l) (lostPlaces l)
    omega
  have xs1 := x1.keep e1 nso g1
  have es1 : Each LsAt (upd G1 so (.lst (us.map V.ref))) (keysOf n l) us := e2.same fun t x h => sm_upd g1 _ _ h
  have eso : (upd G1 so (.lst (us.map V.ref))) so = some (.lst (us.map V.ref)) := upd_same
  generalize upd G1 so (.lst (us.map V.ref)) = Gs at xs1 es1 eso
  refine ⟨_, rfl, so, rfl, ⟨_, SqL.of e1⟩, fun D hD => lc_l (xs := us.map V.ref) (G0 := Gs) (fun _ => true) (fun j y _ => y = .bl (decide (((keysOf n l).getD j []).length = 0))) (SqL.of e1) hD xs1.sub (by rw [List.length_map]; omega) (fun i y G G' _ h => h) ?_ ?_⟩
  · intro j x G2 H2 hx gr Yes No k _
    obtain ⟨t, ht, rfl⟩ := get_ref hx
    obtain ⟨own, h2, h3⟩ := es1.get ht
    refine ⟨rfl, _, rfl, t, _, rfl, .inl (SqL.of (gr.sub _ _ (gr.up _ _ h3))), rfl, k rfl _ G2 H2 (Grow.refl gr.sub) ?_⟩
    rw [List.getD_eq_getElem?_getD, h2, decI, vN_len]
    congr 1
    show decide ((own.length : Int) = 0) = decide (own.length = 0)
    exact decide_eq_decide.mpr (by omega)
  intro G2 H2 ys L
  have e5 : ys = ((keysOf n l).map fun own => decide (own.length = 0)).map V.bl := by
    rw [L.vals, List.length_map, hul, List.map_map]
    exact range_map (keysOf n l) [] (fun own => V.bl (decide (own.length = 0)))
  have eD := L.at_
  rw [e5] at eD
  have x2 := xs1.trans L.gr
  refine ⟨D, _, rfl, SqL.of eD, _, rfl, ?_⟩
  have eany : ((keysOf n l).map fun own => decide (own.length = 0)).any id = (keysOf n l).any fun own => decide (own.length = 0) := by
    rw [List.any_map]
    rfl
  rw [eany]
  cases hany : (keysOf n l).any fun own => decide (own.length = 0) with
  | true => exact ifT rfl (q0 (settle_none hany) H2 x2.same)
  | false =>
    refine ifF rfl ⟨fit rfl, fun t0 nt0 => ⟨fit rfl, fun fr nfr => ?_⟩⟩
    -- level by level
    have hrow := row_len ⟨n, by omega⟩
    have hnext := rows_next ⟨n, by omega⟩
    have g0 := sm_none x2.sub nt0
    have y1 := (x2.loose (sm_upd (o := .tup []) nt0)).keep upd_same (sm_none x2.same nt0) g0
    have gfr := sm_none y1.sub nfr
    have y2 := (y1.loose (sm_upd (o := .lst [.ref t0]) nfr)).keep upd_same (sm_none y1.same nfr) gfr
    refine ⟨fun m σ HH => ∃ (j : Nat) (fr : Addr) (ts : List Addr) (v6 v7 v8 : Option V) (G3 : Hp), m = n - j ∧ j ≤ n ∧ σ = [some (.int (n : Int)), some (.ref lg), some (.ref tw), some (.ref so), v4, some (.ref fr), v6, v7, v8, none, none, none] ∧ Grow H H G3 HH ∧ Same Gs G3 ∧ G3 fr = some (.lst (ts.map V.ref)) ∧ Each NsAt G3 (choices n 0 n j) ts ∧ ∀ m' < j, ∀ r ∈ choices n 0 n m', hits n l r = false,
      ⟨_, 0, fr, [t0], none, none, none, _, rfl, Nat.zero_le _, rfl, y2, (L.gr.up.trans (sm_upd g0)).trans (sm_upd gfr), upd_same, ?_, fun m' hm' => absurd hm' (Nat.not_lt_zero _)⟩, ?_⟩
    · have e : choices n 0 n 0 = [[]] := by cases n <;> rfl
      rw [e]
      exact ⟨t0, [], rfl, sm_upd gfr _ _ upd_same, rfl⟩
    rintro m σ HH ⟨j, fr, ts, v6, v7, v8, G3, rfl, hj, rfl, x3, up3, efr, hts, hlow⟩
    have htl := hts.len
    have hj4 : j < 5 := by omega
    have hlen := (hnext ⟨j, hj4⟩).2.2
    have hlen : (choices n 0 n j).length ≤ 100 := hlen
    refine ⟨true, rfl, ifT rfl ⟨fun σ HH => ∃ (fr : Addr) (ts : List Addr) (v6 v7 v8 : Option V) (G3 : Hp), j < n ∧ σ = [some (.int (n : Int)), some (.ref lg), some (.ref tw), some (.ref so), v4, some (.ref fr), v6, v7, v8, none, none, none] ∧ Grow H H G3 HH ∧ Same Gs G3 ∧ G3 fr = some (.lst (ts.map V.ref)) ∧ Each NsAt G3 (choices n 0 n (j + 1)) ts ∧ ∀ m' < j + 1, ∀ r ∈ choices n 0 n m', hits n l r = false,
      fun σ' H' ⟨fr', ts', a6, a7, a8, G', b0, b1, b2, b3, b4, b5, b6⟩ => ⟨n - (j + 1), by omega, j + 1, fr', ts', a6, a7, a8, G', rfl, b0, b1, b2, b3, b4, b5, b6⟩, ?_⟩⟩
    refine ⟨_, rfl, fr, rfl, ⟨_, SqL.of (x3.sub _ _ efr)⟩, for_list (xs := ts.map V.ref) (fun k σ HH => ∃ (v6 : Option V) (G4 : Hp), σ = [some (.int (n : Int)), some (.ref lg), some (.ref tw), some (.ref so), v4, some (.ref fr), v6, v7, v8, none, none, none] ∧ Grow H H G4 HH ∧ Same G3 G4 ∧ ∀ r ∈ (choices n 0 n j).take k, hits n l r = false)
      ⟨v6, G3, rfl, x3, Same.refl _, fun r hr => by simp at hr⟩ ?_ ?_ ?_⟩
    · rintro k σ HH _ ⟨v6, G4, rfl, x4, up4, hno⟩
      exact SqL.of (x4.sub _ _ (up4 _ _ efr))
    · rintro k x σ HH hx ⟨v6, G4, rfl, x4, up4, hno⟩
      obtain ⟨tr, htr, rfl⟩ := get_ref hx
      obtain ⟨r, hr, hrt⟩ := hts.get htr
      have hrt4 := up4 _ _ hrt
      have us4 := up3.trans up4
      refine ⟨_, rfl, so, rfl, ⟨_, SqL.of (x4.sub _ _ (us4 _ _ eso))⟩, fun D hD => lc_l (xs := us.map V.ref) (G0 := G4) (fun _ => true) (fun i y _ => y = .bl (((keysOf n l).getD i []).any fun k => r.contains k)) (SqL.of (x4.sub _ _ (us4 _ _ eso))) hD x4.sub (by rw [List.length_map]; omega) (fun i y G G' _ h => h) ?_ ?_⟩
      · intro i x G5 H5 hx gr Yes No kk _
        obtain ⟨t, ht, rfl⟩ := get_ref hx
        obtain ⟨own, h2, h3⟩ := es1.get ht
        have h3' := gr.sub _ _ (gr.up _ _ (us4 _ _ h3))
        have hrt5 := gr.sub _ _ (gr.up _ _ hrt4)
        have hol : own.length ≤ 4 := by
          have hm := List.mem_of_getElem? h2
          obtain ⟨i', hi', rfl⟩ := List.mem_map.mp hm
          obtain ⟨b', hb', _⟩ := lok_lost hlok (List.mem_filter.mp hi').1
          obtain ⟨_, _, _, _, _, _, _, _, ⟨_, _, _, ⟨hcl', _⟩, _⟩⟩ := hlog.batch hb'
          have hba : batchAt l i' = b' := by
            unfold batchAt
            rw [hb']
          rw [List.length_map, hba]
          exact hcl'
        refine ⟨rfl, _, rfl, t, rfl, ⟨_, SqL.of h3'⟩, fun D2 hD2 => lc_l (xs := vN own) (G0 := G5) (fun _ => true) (fun i y _ => y = .bl (r.contains (own.getD i 0))) (SqL.of h3') hD2 gr.sub (by rw [vN_len]; omega) (fun i y G G' _ h => h) ?_ ?_⟩
        · intro i2 x G6 H6 hx gr2 Yes2 No2 k2 _
          obtain ⟨m, hm, rfl⟩ := vN_get hx
          refine ⟨rfl, _, rfl, _, rfl, tr, _, rfl, .inr (SqT.of (gr2.same _ _ hrt5)), rfl, flat_vN _, k2 rfl _ G6 H6 (Grow.refl gr2.sub) ?_⟩
          rw [List.getD_eq_getElem?_getD, hm]
          exact congrArg V.bl (inV_vN m r)
        · intro G6 H6 zs L2
          have e7 : zs = (own.map fun k => r.contains k).map V.bl := by
            rw [L2.vals, vN_len, List.map_map]
            exact range_map own 0 (fun k => V.bl (r.contains k))
          have eD2 := L2.at_
          rw [e7] at eD2
          refine ⟨D2, _, rfl, SqL.of eD2, kk rfl _ G6 H6 L2.gr ?_⟩
          rw [List.getD_eq_getElem?_getD, h2, List.any_map]
          rfl
      · intro G5 H5 zs L2
        have e7 : zs = ((keysOf n l).map fun own => own.any fun k => r.contains k).map V.bl := by
          rw [L2.vals, List.length_map, hul, List.map_map]
          exact range_map (keysOf n l) [] (fun own => V.bl (own.any fun k => r.contains k))
        have eD2 := L2.at_
        rw [e7] at eD2
        refine ⟨D, _, rfl, SqL.of eD2, _, rfl, ?_⟩
        have eall : ((keysOf n l).map fun own => own.any fun k => r.contains k).all id = hits n l r := by
          rw [List.all_map, hits_keys]
          rfl
        rw [eall]
        have x5 := x4.trans L2.gr
        cases hh : hits n l r with
        | true =>
          have hmem := List.mem_of_getElem? hr
          have hrl := (hrow ⟨j, hj4⟩ r hmem).1
          refine ifT rfl ⟨_, rfl, tr, _, rfl, .inr (SqT.of (L2.gr.same _ _ (x4.sub _ _ hrt4))), fun p np => q1 r ?_ hrl _ p (sm_none x5.same np) (x5.same.trans (sm_upd np)) upd_same⟩
          have hk : k < (choices n 0 n j).length := (List.getElem?_eq_some_iff.mp hr).1
          refine settle_some (pre := (choices n 0 n j).take k) (post := (choices n 0 n j).drop (k + 1)) hj hlow ?_ hno hh
          have e8 := List.take_append_drop k (choices n 0 n j)
          rw [List.drop_eq_getElem_cons hk] at e8
          rw [List.getElem?_eq_getElem hk] at hr
          rw [← Option.some.inj hr]
          exact e8.symm
        | false =>
          refine ifF rfl ⟨_, G5, rfl, x5, up4.trans L2.gr.up, fun r' hr' => ?_⟩
          rw [List.take_succ, hr] at hr'
          rcases List.mem_append.mp hr' with h | h
          · exact hno r' h
          · have : r' = r := by simpa using h
            rw [this]
            exact hh
    rintro σ H4 ⟨w6, G4, rfl, x4, up4, hno⟩
    rw [List.length_map, htl, List.take_length] at hno
    -- the full row would do
    have hjn : j < n := by
      refine Nat.lt_of_le_of_ne hj fun ejn => ?_
      subst ejn
      have e9 := rows_full ⟨j, by omega⟩
      have e9 : choices j 0 j j = [List.range j] := e9
      have h9 := hno (List.range j) (by rw [e9]; simp)
      rw [hits_keys] at h9
      have h10 : ((keysOf j l).all fun own => own.any fun k => (List.range j).contains k) = true := by
        rw [List.all_eq_true]
        intro own ho
        have h11 : decide (own.length = 0) = false := by
          cases hd : decide (own.length = 0) with
          | false => rfl
          | true =>
            have this : ((keysOf j l).any fun own => decide (own.length = 0)) = true := List.any_eq_true.mpr ⟨own, ho, hd⟩
            rw [hany] at this
            cases this
        obtain ⟨i', hi', rfl⟩ := List.mem_map.mp ho
        obtain ⟨b', hb', hbk⟩ := lok_lost hlok (List.mem_filter.mp hi').1
        have hba : batchAt l i' = b' := by
          unfold batchAt
          rw [hb']
        rw [hba] at h11 ⊢
        rw [List.length_map] at h11
        cases hc : b'.conditions with
        | nil => rw [hc] at h11; cases h11
        | cons c cr =>
          rw [List.any_eq_true]
          refine ⟨c.1, by simp, ?_⟩
          rw [List.contains_iff_mem, List.mem_range]
          exact hbk.1 c (by rw [hc]; simp)
      rw [h10] at h9
      cases h9
    have hnx := hnext ⟨j, hj4⟩
    have hnx1 : (choices n 0 n j).flatMap (nextRows n) = choices n 0 n (j + 1) := hnx.1
    have hnx2 : (choices n 0 n (j + 1)).length ≤ 100 := hnx.2.1
    refine ⟨fit rfl, fun fl nfl => ?_⟩
    have nfl' := sm_none x4.same nfl
    have gfl := sm_none x4.sub nfl
    have s4 := sm_upd (o := .lst []) nfl
    have nlf : fr ≠ fl := ne_of_none (x4.sub _ _ (up4 _ _ efr)) nfl
    refine ⟨_, rfl, fr, rfl, ⟨_, SqL.of (s4 _ _ (x4.sub _ _ (up4 _ _ efr)))⟩, for_list (xs := ts.map V.ref) (fun k σ HH => ∃ (us2 : List Addr) (v6 v8 : Option V) (G5 : Hp), σ = [some (.int (n : Int)), some (.ref lg), some (.ref tw), some (.ref so), v4, some (.ref fr), v6, some (.ref fl), v8, none, none, none] ∧ Grow H H G5 HH ∧ Same G4 G5 ∧ G5 fl = none ∧ HH fl = some (.lst (us2.map V.ref)) ∧ Each NsAt G5 (((choices n 0 n j).take k).flatMap (nextRows n)) us2)
      ⟨[], w6, v8, G4, rfl, x4.poke nfl' gfl, Same.refl _, gfl, upd_same, rfl⟩ ?_ ?_ ?_⟩
    · rintro k σ HH _ ⟨us2, v6, v8, G5, rfl, x5, up5, g5, e5, e6⟩
      exact SqL.of (x5.sub _ _ (up5 _ _ (up4 _ _ efr)))
    · rintro k x σ HH hx ⟨us2, v6, v8, G5, rfl, x5, up5, g5, e5, e6⟩
      obtain ⟨tr, htr, rfl⟩ := get_ref hx
      obtain ⟨r, hr, hrt⟩ := hts.get htr
      have hrt5 := up5 _ _ (up4 _ _ hrt)
      have hmem := List.mem_of_getElem? hr
      obtain ⟨hrl, hrk⟩ := hrow ⟨j, hj4⟩ r hmem
      have hst : rowStart r ≤ n := by
        unfold rowStart
        cases hg : r.getLast? with
        | none => exact Nat.zero_le _
        | some k => exact hrk k (List.mem_of_getLast? hg)
      have hcnt : (((choices n 0 n j).take (k + 1)).flatMap (nextRows n)).length ≤ 100 := by
        have e8 := List.take_append_drop (k + 1) (choices n 0 n j)
        have e9 := congrArg (fun z => (List.flatMap (nextRows n) z).length) e8
        simp only [List.flatMap_append, List.length_append] at e9
        rw [hnx1] at e9
        omega
      have htake : (choices n 0 n j).take (k + 1) = (choices n 0 n j).take k ++ [r] := by rw [List.take_succ, hr]; rfl
      rw [htake, List.flatMap_append, List.flatMap_cons, List.flatMap_nil, List.append_nil] at hcnt
      have hu2 := e6.len
      refine ⟨fun σ H2 => H2 = HH ∧ σ = [some (.int (n : Int)), some (.ref lg), some (.ref tw), some (.ref so), v4, some (.ref fr), some (.ref tr), some (.ref fl), some (.int (rowStart r : Int)), none, none, none], ?_, ?_⟩
      · refine ⟨_, rfl, tr, _, rfl, .inr (SqT.of (x5.sub _ _ hrt5)), _, _, rfl, rfl, _, rfl, ?_⟩
        rcases List.eq_nil_or_concat r with rfl | ⟨r', z, rfl⟩
        · exact ifF rfl ⟨rfl, rfl⟩
        · refine ifT (by rw [vN_len]; simp) ⟨_, rfl, _, rfl, tr, _, _, .int (z : Int), rfl, rfl, SqT.of (x5.sub _ _ hrt5), ?_, _, _, rfl, rfl, rfl, ?_⟩
          · have e8 : vN (r'.concat z) = vN r' ++ [.int (z : Int)] := by
              unfold vN
              simp
            rw [e8]
            unfold atI ixN
            rw [if_neg (by decide), if_pos (by simp; omega)]
            show (vN r' ++ [V.int (z : Int)])[_]? = _
            have e9 : (-1 + (((vN r' ++ [V.int (z : Int)]).length : Nat) : Int)).toNat = (vN r').length := by
              rw [List.length_append, List.length_singleton]
              omega
            rw [e9]
            simp
          · have e8 : rowStart (r'.concat z) = z + 1 := by
              unfold rowStart
              simp
            rw [e8]
            rfl
      · rintro σ H2 ⟨rfl, rfl⟩
        refine ⟨_, rfl, .inl ⟨rfl, _, SqL.of e5⟩, _, rfl, _, rfl, _, _, rfl, ⟨by omega, by omega, by omega, by omega⟩, fun D hD => lc_r (G0 := G5) (fun i y G' => ∃ t, y = .ref t ∧ NsAt G' t (r ++ [rowStart r + i])) hD x5.sub (by omega) ?_ ?_ ?_⟩
        · rintro i y G6 G7 s6 ⟨t, h1, h2⟩
          exact ⟨t, h1, s6 _ _ h2⟩
        · intro i G6 H6 hi gr Yes No kk
          refine ⟨rfl, _, rfl, _, rfl, fit rfl, fun p1 np1 => cat_any (xs := vN r) (ys := [.int ((rowStart r : Int) + (i : Int))]) (SqT.of (sm_upd np1 _ _ (gr.sub _ _ (gr.up _ _ hrt5)))) upd_same (by simp) (by rw [vN_len]; simp; omega) fun H7 p2 s7 e7 hnew => ?_⟩
          have np2 : H6 p2 = none := by
            rcases hnew with h | h
            · rw [h]; exact np1
            · exact sm_none (sm_upd np1) h
          have s12 := (sm_upd (o := .tup [.int ((rowStart r : Int) + (i : Int))]) np1).trans s7
          refine kk _ _ _ (((Grow.refl gr.sub).loose s12).keep (p := p2) e7 np2 (sm_none gr.sub np2)) ⟨p2, rfl, ?_⟩
          show (upd G6 p2 (.tup (vN r ++ [.int ((rowStart r : Int) + (i : Int))]))) p2 = _
          rw [upd_same]
          unfold vN
          rw [List.map_append]
          rfl
        · intro G6 H6 ys L6
          obtain ⟨hyl, hyr⟩ := L6.each
          have hcl : ((n : Int) - (rowStart r : Int)).toNat = n - rowStart r := by omega
          rw [hcl] at hyl
          obtain ⟨us3, rfl, hu3⟩ := Each.of_list (R := NsAt) (H := G6) (nextRows n r) ys (by rw [hyl]; unfold nextRows; simp) fun i y wr h1 h2 => by
            obtain ⟨t, h3, h4⟩ := hyr i y h1
            have hi : i < n - rowStart r := by rw [← hyl]; exact (List.getElem?_eq_some_iff.mp h1).1
            unfold nextRows at h2
            rw [List.getElem?_map, List.getElem?_range hi] at h2
            cases h2
            exact ⟨t, h3, h4⟩
          have g6 : G6 fl = none := L6.gr.new fl g5 (by rw [e5]; simp)
          have x6 := x5.trans L6.gr
          have h33 := hu3.len
          rw [List.length_append] at hcnt
          refine ⟨fl, D, _, _, rfl, rfl, L6.gr.same _ _ e5, L6.at_, by rw [List.length_map, List.length_map, sizeLine_eq]; omega, us2 ++ us3, _, _, G6, rfl, x6.poke nfl' g6, up5.trans L6.gr.up, g6, by rw [upd_same, List.map_append], ?_⟩
          rw [htake, List.flatMap_append, List.flatMap_cons, List.flatMap_nil, List.append_nil]
          exact Each.app (e6.same fun t x h => L6.gr.up _ _ h) hu3
    · rintro σ HH ⟨us2, v6, v8, G5, rfl, x5, up5, g5, e5, e6⟩
      rw [List.length_map, htl, List.take_length, hnx1] at e6
      refine ⟨_, rfl, fl, us2, _, _, _, _, hjn, rfl, x5.keep e5 nfl' g5, (up3.trans (up4.trans up5)).trans (sm_upd g5), upd_same, e6.same fun t x h => sm_upd g5 _ _ h, fun m' hm' r hr => ?_⟩
      by_cases hmj : m' < j
      · exact hlow m' hmj r hr
      · have : m' = j := by omega
        subst this
        exact hno r hr
end
end Zr
end
section
set_option maxRecDepth 100000
set_option maxHeartbeats 2000000
/-! The desk: what is asked. -/
namespace Zr
open PySem PySem.Spec PyProof.Rows L2 L2H
open Zp (oi)
open Zw (Wd ReP Rel Good stage ab)
open R7289g.Spec (Batch batchAt versionOf recordOf Scene lostPlaces allSome)
/-! ### plain: what a log argument comes to -/
theorem allSome_all {α β : Type} {f : α → Option β} {p : β → Prop} (h : ∀ x y, f x = some y → p y) : ∀ {l : List α} {r : List β}, allSome f l = some r → ∀ y ∈ r, p y
  | [], r, e, y, hy => by cases e; cases hy
  | x :: l, r, e, y, hy => by
    have e : (f x).bind (fun a => (allSome f l).map fun l => a :: l) = some r := e
    cases hf : f x with
    | none => rw [hf] at e; cases e
    | some b =>
      rw [hf] at e
      cases hl : allSome f l with
      | none => rw [hl] at e; cases e
      | some r' =>
        rw [hl] at e
        cases e
        rcases List.mem_cons.mp hy with rfl | hy
        · exact h x _ hf
        · exact allSome_all h hl y hy
theorem pairV_lt {n : Nat} {v : RWire.Value} {e : Nat × Nat} (h : pairV n v = some e) : e.1 < n := by
  cases v with
  | list l =>
    match l, h with
    | [x, y], h =>
      have h : (if (isNum x 0 ((n : Int) - 1) && isNum y 0 100) = true then some (((numVal x).getD 0).toNat, ((numVal y).getD 0).toNat) else none) = some e := h
      by_cases hh : (isNum x 0 ((n : Int) - 1) && isNum y 0 100) = true
      · rw [if_pos hh] at h
        cases h
        obtain ⟨h1, _⟩ := Bool.and_eq_true_iff.mp hh
        obtain ⟨i, rfl, hi1, hi2⟩ := isNum_val h1
        show i.toNat < n
        omega
      · rw [if_neg hh] at h
        cases h
    | [], h => cases h
    | [_], h => cases h
    | _ :: _ :: _ :: _, h => cases h
  | _ => cases h
theorem pairsV_lt {n least : Nat} {v : RWire.Value} {l : List (Nat × Nat)} (h : pairsV n least v = some l) : ∀ c ∈ l, c.1 < n := by
  unfold pairsV at h
  cases h1 : lstV least 4 v with
  | none => rw [h1] at h; cases h
  | some m =>
    rw [h1] at h
    have h : (allSome (pairV n) m).bind _ = some l := h
    cases h2 : allSome (pairV n) m with
    | none => rw [h2] at h; cases h
    | some r =>
      rw [h2] at h
      have h : (if R7289g.Spec.allDifferent (r.map fun e => e.1) = true then some r else none) = some l := h
      by_cases h3 : R7289g.Spec.allDifferent (r.map fun e => e.1) = true
      · rw [if_pos h3] at h
        cases h
        exact allSome_all (p := fun c => c.1 < n) (fun x y e => pairV_lt e) h2
      · rw [if_neg h3] at h
        cases h
theorem batchV_ok {n : Nat} {v : RWire.Value} {b : Batch} (h : batchV n v = some b) : Bok n b := by
  cases v with
  | list l =>
    match l, h with
    | [c, w], h =>
      have h : (match pairsV n 0 c, pairsV n 1 w with
        | some c, some w => some (Batch.mk c w)
        | _, _ => none) = some b := h
      cases h1 : pairsV n 0 c with
      | none => rw [h1] at h; cases h
      | some c' =>
        cases h2 : pairsV n 1 w with
        | none => rw [h1, h2] at h; cases h
        | some w' =>
          rw [h1, h2] at h
          cases h
          exact ⟨pairsV_lt h1, pairsV_lt h2⟩
    | [], h => cases h
    | [_], h => cases h
    | _ :: _ :: _ :: _, h => cases h
  | _ => cases h
theorem keyV_lt {n k : Nat} {v : RWire.Value} (h : keyV n v = some k) : k < n := by
  unfold keyV at h
  by_cases hh : isNum v 0 ((n : Int) - 1) = true
  · rw [if_pos hh] at h
    obtain ⟨i, rfl, h1, h2⟩ := isNum_val hh
    cases h
    show i.toNat < n
    omega
  · rw [if_neg hh] at h
    cases h
theorem entryV_ok {n : Nat} {v : RWire.Value} {e : R7289g.Spec.Entry} (h : entryV n v = some e) : Eok n e := by
  cases v with
  | list l =>
    match l, h with
    | [x, b], h =>
      have h : (if isWord x sLost = true then (batchV n b).map R7289g.Spec.Entry.lost else none) = some e := h
      by_cases hh : isWord x sLost = true
      · rw [if_pos hh] at h
        cases hb : batchV n b with
        | none => rw [hb] at h; cases h
        | some c => rw [hb] at h; cases h; exact batchV_ok hb
      · rw [if_neg hh] at h
        cases h
    | [x, b, y], h =>
      have h : (if isWord x sRead = true then (match keyV n b, recV y with
          | some k, some r => some (R7289g.Spec.Entry.read k r)
          | _, _ => none) else if isWord x sAnswered = true then (match batchV n b, boolV y with
          | some b, some e => some (R7289g.Spec.Entry.answered b e)
          | _, _ => none) else none) = some e := h
      by_cases hh : isWord x sRead = true
      · rw [if_pos hh] at h
        cases h1 : keyV n b with
        | none => rw [h1] at h; cases h
        | some k =>
          cases h2 : recV y with
          | none => rw [h1, h2] at h; cases h
          | some r => rw [h1, h2] at h; cases h; exact keyV_lt h1
      · rw [if_neg hh] at h
        by_cases hh2 : isWord x sAnswered = true
        · rw [if_pos hh2] at h
          cases h1 : batchV n b with
          | none => rw [h1] at h; cases h
          | some c =>
            cases h2 : boolV y with
            | none => rw [h1, h2] at h; cases h
            | some r => rw [h1, h2] at h; cases h; exact batchV_ok h1
        · rw [if_neg hh2] at h
          cases h
    | [], h => cases h
    | [_], h => cases h
    | _ :: _ :: _ :: _ :: _, h => cases h
  | _ => cases h
theorem listV_ok {n : Nat} {v : RWire.Value} {l : List R7289g.Spec.Entry} (h : listV n v = some l) : Lok n l := by
  unfold listV at h
  cases h1 : lstV 0 8 v with
  | none => rw [h1] at h; cases h
  | some m =>
    rw [h1] at h
    exact allSome_all (p := Eok n) (fun x y e => entryV_ok e) h
theorem list_taken {n : Nat} (h1 : 1 ≤ n) (h4 : n ≤ 4) {v : RWire.Value} (hk : Zp.kin v = true) : R7289g.Spec.listIn 0 8 (R7289g.Spec.entryIn n) (Rust.taken v) = listV n v := by
  rw [listIn_taken 0 8 _ v (okv_of (kin_oct hk))]
  unfold listV
  have e0 : lstV ((0 : Nat) : Int) ((8 : Nat) : Int) v = lstV 0 8 v := rfl
  rw [e0]
  cases hl : lstV 0 8 v with
  | none => rfl
  | some l =>
    show allSome _ (l.map Rust.taken) = allSome _ l
    refine allSome_map _ _ _ l fun x hx => entryIn_taken h1 h4 x ?_
    cases v with
    | list m =>
      have h : (if isLst (.list m) 0 8 = true then some m else none) = some l := hl
      by_cases hh : isLst (.list m) 0 8 = true
      · rw [if_pos hh] at h
        cases h
        rw [Zp.kin_list] at hk
        exact kin_mem hk x hx
      · rw [if_neg hh] at h
        cases h
    | _ => cases hl
def mWorld : Str := "no world agrees with the log"
theorem e_keys : EIs R7289g.Spec.noKeys 2 mKeys := ⟨.inr ⟨rfl, rfl⟩, by decide +kernel, by decide +kernel⟩
theorem e_log : EIs R7289g.Spec.noLog 1 mLog := ⟨.inl ⟨rfl, rfl⟩, by decide +kernel, by decide +kernel⟩
theorem e_many : EIs R7289g.Spec.manyLost 2 mMany := ⟨.inr ⟨rfl, rfl⟩, by decide +kernel, by decide +kernel⟩
theorem e_world : EIs R7289g.Spec.noWorld 2 mWorld := ⟨.inr ⟨rfl, rfl⟩, by decide +kernel, by decide +kernel⟩
theorem e_key : EIs R7289g.Spec.noKey 2 mKey := ⟨.inr ⟨rfl, rfl⟩, by decide +kernel, by decide +kernel⟩
theorem logArg_keys {v0 v1 : RWire.Value} (h : isNum v0 1 4 = false) : R7289g.Spec.logArg (Rust.taken v0) (Rust.taken v1) = .error R7289g.Spec.noKeys := by
  unfold R7289g.Spec.logArg
  rw [rangeIn_taken 1 4 v0]
  have e : isNum v0 ((1 : Nat) : Int) ((4 : Nat) : Int) = isNum v0 1 4 := rfl
  rw [e, h]
  rfl
theorem logArg_num {n : Nat} {v1 : RWire.Value} (h1 : 1 ≤ n) (h4 : n ≤ 4) (hk : Zp.kin v1 = true) : R7289g.Spec.logArg (Rust.taken (.int (n : Int))) (Rust.taken v1) =
    R7289g.Spec.andThen (R7289g.Spec.orElse R7289g.Spec.noLog (listV n v1)) fun l => if 5 < (l.filter isLostE).length then .error R7289g.Spec.manyLost else if (R7289g.Spec.worlds n l).isEmpty then .error R7289g.Spec.noWorld else .ok (n, l) := by
  unfold R7289g.Spec.logArg
  rw [rangeIn_taken 1 4 _]
  have e : isNum (.int (n : Int)) ((1 : Nat) : Int) ((4 : Nat) : Int) = true := by
    show (decide (((1 : Nat) : Int) ≤ (n : Int)) && decide ((n : Int) ≤ ((4 : Nat) : Int))) = true
    rw [decide_eq_true (by omega), decide_eq_true (by omega)]
    rfl
  rw [e]
  show R7289g.Spec.andThen (R7289g.Spec.orElse R7289g.Spec.noLog (R7289g.Spec.listIn 0 8 (R7289g.Spec.entryIn n) (Rust.taken v1))) _ = _
  rw [list_taken h1 h4 hk]
  congr 1
  funext l
  rw [Zw.lostIn_places, lostIn_eq]
  rfl
section
variable {P : Program} {w : World} {K : PySem.W.Frag} {mg : Str → Option Value} {base : Heap} {a : Adr}
def spDesk (a : Adr) : Sp := fun vs H Q _ => ∃ p dx, vs = [.ref p] ∧ H p = some (.ins a.desk dx []) ∧ ∀ cl, H cl = none → Q .non (upd (upd H cl (.lst [.non, .non])) p (.ins a.desk dx (fDesk (.ref cl))))
theorem m_Desk (T : Txt K mg a) : Mak P w K mg base 1 "Desk" a.desk (spDesk a) := by
  refine mak T.c_Desk sc_DeskInit (fun _ _ _ _ ⟨_, _, e, _⟩ => by rw [e]; rfl) fun f cdv A outer s H vs Q E hr h => ?_
  obtain ⟨p, dx, rfl, hp, q⟩ := h
  refine ⟨_, (pss_one (ps_f T.c_Desk.cl T.n_Desk_commits (pv 0) (pe_lst (pa_cons pe_non (pa_cons pe_non pa_nil))))), ?_⟩
  refine ⟨fit rfl, fun cl ncl => ⟨_, rfl, p, dx, _, rfl, sm_upd ncl _ _ hp, rfl, q cl ncl⟩⟩
/-- a question: its keys, its log, its worlds -/
def QAt (a : Adr) (G : Hp) (p : Addr) (n : Nat) (l : List R7289g.Spec.Entry) (ws : List Wd) : Prop := ∃ lg wt, Ins G p a.quest (fQuest (.int (n : Int)) (.ref lg) (.ref wt)) ∧ LogAt a G lg l ∧ WsAt G wt ws
structure Asked (n : Nat) (l : List R7289g.Spec.Entry) (ws : List Wd) : Prop where
  n1 : 1 ≤ n
  n4 : n ≤ 4
  lok : Lok n l
  all : WoAll n l ws
def spQuest (a : Adr) : Sp := fun vs H Q E => ∃ (p g dx q0 q1 : Addr) (qs : List Addr) (v0 v1 : RWire.Value) (G H0 : Hp), vs = [.ref p, .ref g] ∧ H p = some (.ins a.quest dx []) ∧ H0 g = some (.lst (.ref q0 :: .ref q1 :: qs.map V.ref)) ∧ PAt a H0 v0 q0 ∧ PAt a H0 v1 q1 ∧ Grow G H0 G H ∧ H0 p = none ∧ G p = none ∧
  (∀ err k m, R7289g.Spec.logArg (Rust.taken v0) (Rust.taken v1) = .error err → EIs err k m → ∀ H', Same H0 H' → ERef a k m H' E) ∧
  ∀ n l ws G' H', R7289g.Spec.logArg (Rust.taken v0) (Rust.taken v1) = .ok (n, l) → Asked n l ws → Grow G H0 G' H' → QAt a G' p n l ws → Q .non H'
theorem m_Question (T : Txt K mg a) : MakX P w K mg base 6 "Question" a.quest (spQuest a) := by
  refine makX T.c_Question sc_QuestionInit (fun _ _ _ _ ⟨_, _, _, _, _, _, _, _, _, _, e, _⟩ => by rw [e]; rfl) fun f cdv A outer s H vs Q E hr h => ?_
  obtain ⟨p, g, dx, q0, q1, qs, v0, v1, G, H0, rfl, hp, hg, hv0, hv1, x0, np, gp, qe, qo⟩ := h
  refine ⟨_, (pss_cons (ps_f T.c_Question.cl T.n_Question_many (pv 0) (pe_cx (c_keys_of T) hr (by decide) (L2N.takes_of rfl rfl rfl rfl) rfl (pa_cons (pe_ix ix_list (pv 1) pe_int (fun _ _ => rfl)) pa_nil)))
    (pss_cons (ps_f T.c_Question.cl T.n_Question_log (pv 0) (pe_cx (c_log_of T) hr (by decide) (L2N.takes_of rfl rfl rfl rfl) rfl (pa_cons (pe_ix ix_list (pv 1) pe_int (fun _ _ => rfl)) (pa_cons (pe_f T.c_Question.cl T.n_Question_many (pv 0)) pa_nil))))
    (pss_cons (ps_f T.c_Question.cl T.n_Question_worlds (pv 0) (pe_c (c_worlds_of T) hr (by decide) rfl (pa_cons (pe_f T.c_Question.cl T.n_Question_many (pv 0)) (pa_cons (pe_f T.c_Question.cl T.n_Question_log (pv 0)) pa_nil))))
    (pss_one (ps_expr (pe_cx (c_check T) hr (by decide) (L2N.takes_of rfl rfl rfl rfl) rfl (pa_cons (pe_cmpR op_gt (pe_callB call_len_seq rfl T.b_len (by decide +kernel) (pa_cons (pe_f T.c_Question.cl T.n_Question_worlds (pv 0)) pa_nil)) pe_int (nomark _)) (pa_cons pe_str pa_nil)))))))), ?_⟩
  have k1 := pat_kin v1 q1 hv1
  have i0 : (V.ref q0 :: V.ref q1 :: qs.map V.ref)[0]? = some (.ref q0) := rfl
  have i1 : (V.ref q0 :: V.ref q1 :: qs.map V.ref)[1]? = some (.ref q1) := rfl
  refine ⟨_, rfl, g, _, _, _, rfl, rfl, SqL.of (x0.same _ _ hg), atI_nat i0, _, rfl, q0, v0, rfl, PAt.same x0.same _ _ hv0, fun h5 => qe _ 2 mKeys (logArg_keys h5) e_keys H x0.same, fun i hi h5 => ?_⟩
  subst hi
  obtain ⟨i', hi', hi1, hi2⟩ := isNum_val h5
  cases hi'
  obtain ⟨n, rfl⟩ := Int.eq_ofNat_of_zero_le (show (0 : Int) ≤ i by omega)
  have hn1 : 1 ≤ n := by omega
  have hn4 : n ≤ 4 := by omega
  have qe := fun err k m (h : R7289g.Spec.logArg (Rust.taken (.int (n : Int))) (Rust.taken v1) = .error err) => qe err k m h
  have qo := fun n' l ws G' H' (h : R7289g.Spec.logArg (Rust.taken (.int (n : Int))) (Rust.taken v1) = .ok (n', l)) => qo n' l ws G' H' h
  rw [logArg_num hn1 hn4 k1] at qe qo
  refine ⟨_, rfl, p, dx, _, rfl, hp, rfl, ?_⟩
  -- many is told
  have x1 := x0.poke (b := p) (o := .ins a.quest dx [(Str.ofString "many", V.int (n : Int))]) np gp
  have e1 : (upd H p (.ins a.quest dx [(Str.ofString "many", V.int (n : Int))])) p = some (.ins a.quest dx [(Str.ofString "many", V.int (n : Int))]) := upd_same
  have hf1 : putF ("many" : Str) (V.int (n : Int)) [] = [(Str.ofString "many", V.int (n : Int))] := rfl
  rw [hf1]
  generalize upd H p (.ins a.quest dx [(Str.ofString "many", V.int (n : Int))]) = H1 at x1 e1 ⊢
  refine ⟨_, rfl, g, _, _, _, rfl, rfl, SqL.of (x1.same _ _ hg), atI_nat i1, _, rfl, p, dx, _, _, rfl, e1, rfl, _, _, rfl, q1, v1, n, G, rfl, rfl, PAt.same x1.same _ _ hv1, x1.sub, fun h6 H2 s2 => qe _ 1 mLog ?_ e_log H2 (x1.same.trans s2), fun l hl => ⟨fun h6 H2 s2 => qe _ 2 mMany ?_ e_many H2 (x1.same.trans s2), fun h6 G2 H2 lg x2 n2 r2 => ⟨_, rfl, p, dx, _, rfl, x2.same _ _ e1, rfl, ?_⟩⟩⟩
  · rw [h6]
    rfl
  · rw [hl]
    show (if 5 < (l.filter isLostE).length then _ else _) = _
    rw [if_pos h6]
  have hlok := listV_ok hl
  rw [hl] at qe qo
  have qe := fun err k m (h : (if 5 < (l.filter isLostE).length then Except.error R7289g.Spec.manyLost else if (R7289g.Spec.worlds n l).isEmpty then Except.error R7289g.Spec.noWorld else Except.ok (n, l)) = (Except.error err : R7289g.Spec.Res (Nat × List R7289g.Spec.Entry))) => qe err k m h
  have qo := fun n' l' ws G' H' (h : (if 5 < (l.filter isLostE).length then Except.error R7289g.Spec.manyLost else if (R7289g.Spec.worlds n l).isEmpty then Except.error R7289g.Spec.noWorld else Except.ok (n, l)) = (Except.ok (n', l') : R7289g.Spec.Res (Nat × List R7289g.Spec.Entry))) => qo n' l' ws G' H' h
  rw [if_neg (by omega)] at qe qo
  have x12 := x1.trans x2
  have g2 : G2 p = none := x2.new p gp (by rw [e1]; simp)
  have x3 := x12.poke (b := p) (o := .ins a.quest dx [(Str.ofString "many", V.int (n : Int)), (Str.ofString "log", V.ref lg)]) np g2
  have e3 : (upd H2 p (.ins a.quest dx [(Str.ofString "many", V.int (n : Int)), (Str.ofString "log", V.ref lg)])) p = some (.ins a.quest dx [(Str.ofString "many", V.int (n : Int)), (Str.ofString "log", V.ref lg)]) := upd_same
  have hf3 : putF ("log" : Str) (V.ref lg) [(Str.ofString "many", V.int (n : Int))] = [(Str.ofString "many", V.int (n : Int)), (Str.ofString "log", V.ref lg)] := rfl
  rw [hf3]
  generalize upd H2 p (.ins a.quest dx [(Str.ofString "many", V.int (n : Int)), (Str.ofString "log", V.ref lg)]) = H3 at x3 e3 ⊢
  refine ⟨_, rfl, p, dx, _, _, rfl, e3, rfl, _, rfl, p, dx, _, _, rfl, e3, rfl, _, _, rfl, lg, n, l, G2, rfl, rfl, r2.same x3.sub, x3.sub, hlok, hn1, hn4, by omega, fun G4 H4 wt ws x4 n4 r4 all => ⟨_, rfl, p, dx, _, rfl, x4.same _ _ e3, rfl, ?_⟩⟩
  have x34 := x3.trans x4
  have g4 : G4 p = none := x4.new p g2 (by rw [e3]; simp)
  have x5 := x34.poke (b := p) (o := .ins a.quest dx (fQuest (.int (n : Int)) (.ref lg) (.ref wt))) np g4
  have e5 : (upd H4 p (.ins a.quest dx (fQuest (.int (n : Int)) (.ref lg) (.ref wt)))) p = some (.ins a.quest dx (fQuest (.int (n : Int)) (.ref lg) (.ref wt))) := upd_same
  have hf5 : putF ("worlds" : Str) (V.ref wt) [(Str.ofString "many", V.int (n : Int)), (Str.ofString "log", V.ref lg)] = fQuest (.int (n : Int)) (.ref lg) (.ref wt) := rfl
  rw [hf5]
  generalize upd H4 p (.ins a.quest dx (fQuest (.int (n : Int)) (.ref lg) (.ref wt))) = H5 at x5 e5 ⊢
  obtain ⟨wts, ew, hwt⟩ := id r4
  have hwn := hwt.len
  refine ⟨_, rfl, p, dx, _, _, rfl, e5, rfl, wt, _, rfl, .inl (SqL.of (x5.sub _ _ ew)), _, _, rfl, rfl, _, _, rfl, _, mWorld, rfl, rfl, fun hy => ?_, fun hy => ?_⟩
  · have hy : decide ((0 : Int) < ((wts.map V.ref).length : Int)) = true := hy
    have hy := of_decide_eq_true hy
    rw [List.length_map, hwn] at hy
    have hne : (R7289g.Spec.worlds n l).isEmpty = false := by
      cases hw : R7289g.Spec.worlds n l with
      | cons s r => rfl
      | nil =>
        exfalso
        cases hws : ws with
        | nil => rw [hws] at hy; simp at hy
        | cons x r =>
          obtain ⟨s, hs, _⟩ := (all.rel.mem x).mp (by rw [hws]; simp)
          rw [hw] at hs
          cases hs
    refine qo n l ws _ H5 ?_ ⟨hn1, hn4, hlok, all⟩ (x5.keep e5 np g4) ⟨lg, wt, ⟨dx, upd_same⟩, (r2.same x4.up).same (sm_upd g4), r4.same (sm_upd g4)⟩
    rw [hne]
    rfl
  · have hy : decide ((0 : Int) < ((wts.map V.ref).length : Int)) = false := hy
    have hy := of_decide_eq_false hy
    rw [List.length_map, hwn] at hy
    have hem : (R7289g.Spec.worlds n l).isEmpty = true := by
      cases hw : R7289g.Spec.worlds n l with
      | nil => rfl
      | cons s r =>
        exfalso
        have : ab l s ∈ ws := (all.rel.mem _).mpr ⟨s, by rw [hw]; simp, rfl⟩
        have := List.length_pos_of_mem this
        omega
    refine qe _ 2 mWorld ?_ e_world H5 x5.same
    rw [hem]
    rfl
end
end Zr
end
section
set_option maxRecDepth 100000
set_option maxHeartbeats 2000000
/-! Sorted lists without doubles: the specification's order is Python's order of tuples. -/
namespace Zr
open PySem PySem.W PyProof.Rows
open R7289g.Spec (recordBefore stateBefore insertBy sortBy)
/-- a strict order, total -/
structure SO {α : Type} (b : α → α → Bool) : Prop where
  irr : ∀ x, b x x = false
  tr : ∀ x y z, b x y = true → b y z = true → b x z = true
  tot : ∀ x y, b x y = false → b y x = false → x = y
section
variable {α : Type} [BEq α] [LawfulBEq α] {b : α → α → Bool}
theorem mem_insert (x y : α) : ∀ l : List α, y ∈ insertBy b x l ↔ y = x ∨ y ∈ l
  | [] => by simp [insertBy]
  | z :: l => by
    unfold insertBy
    by_cases h1 : b x z = true
    · rw [if_pos h1, List.mem_cons]
    · rw [if_neg h1]
      by_cases h2 : (x == z) = true
      · rw [if_pos h2]
        have := eq_of_beq h2
        subst this
        simp
      · rw [if_neg h2, List.mem_cons, mem_insert x y l, List.mem_cons]
        constructor <;> (rintro (h | h | h) <;> simp [h])
theorem insert_sorted (so : SO b) (x : α) : ∀ l : List α, l.Pairwise (fun a c => b a c = true) → (insertBy b x l).Pairwise fun a c => b a c = true
  | [], _ => by simp [insertBy]
  | z :: l, h => by
    unfold insertBy
    have h' := List.pairwise_cons.mp h
    by_cases h1 : b x z = true
    · rw [if_pos h1]
      refine List.pairwise_cons.mpr ⟨fun c hc => ?_, h⟩
      rcases List.mem_cons.mp hc with rfl | hc
      · exact h1
      · exact so.tr _ _ _ h1 (h'.1 c hc)
    · rw [if_neg h1]
      by_cases h2 : (x == z) = true
      · rw [if_pos h2]; exact h
      · rw [if_neg h2]
        refine List.pairwise_cons.mpr ⟨fun c hc => ?_, insert_sorted so x l h'.2⟩
        rcases (mem_insert x c l).mp hc with rfl | hc
        · cases hz : b z c with
          | true => rfl
          | false =>
            have : c = z := so.tot _ _ (by simpa using h1) hz
            subst this
            simp at h2
        · exact h'.1 c hc
theorem mem_sortBy (y : α) : ∀ l : List α, y ∈ sortBy b l ↔ y ∈ l
  | [] => by simp [sortBy]
  | x :: l => by
    show y ∈ insertBy b x (sortBy b l) ↔ _
    rw [mem_insert, mem_sortBy y l, List.mem_cons]
theorem sortBy_sorted (so : SO b) : ∀ l : List α, (sortBy b l).Pairwise fun a c => b a c = true
  | [] => by simp [sortBy]
  | x :: l => insert_sorted so x _ (sortBy_sorted so l)
end
/-- sorted once each, by keys -/
theorem sort_map {α β : Type} [BEq α] [LawfulBEq α] {b : α → α → Bool} (so : SO b) (f : β → α) {le : β → β → Bool} (hle : ∀ x y, le x y = !b (f y) (f x)) {bs : List β} (hn : (bs.map f).Nodup) {l : List α} (hm : ∀ y, y ∈ bs.map f ↔ y ∈ l) : (bs.mergeSort le).map f = sortBy b l := by
  have pw := List.pairwise_mergeSort (le := le) (fun x y z h1 h2 => by
    rw [hle] at h1 h2 ⊢
    have h1 : b (f y) (f x) = false := by simpa using h1
    have h2 : b (f z) (f y) = false := by simpa using h2
    cases h3 : b (f z) (f x) with
    | false => rfl
    | true =>
      cases h4 : b (f x) (f y) with
      | true => rw [so.tr _ _ _ h3 h4] at h2; cases h2
      | false =>
        rw [so.tot _ _ h4 h1] at h3
        rw [h3] at h2; cases h2) (fun x y => by
    rw [hle, hle]
    cases h1 : b (f y) (f x) with
    | false => rfl
    | true =>
      cases h2 : b (f x) (f y) with
      | false => rfl
      | true =>
        have := so.tr _ _ _ h1 h2
        rw [so.irr] at this; cases this) bs
  have pm := List.mergeSort_perm bs le
  refine Zw.sorted_ext (R := fun a c => b a c = true) (fun a h => by rw [so.irr] at h; cases h) (fun x y z => so.tr x y z) ?_ (sortBy_sorted so l) fun x => ?_
  · have n2 : ((bs.mergeSort le).map f).Nodup := (pm.map f).nodup_iff.mpr hn
    have p2 : ((bs.mergeSort le).map f).Pairwise fun a c => b c a = false := by
      rw [List.pairwise_map]
      exact pw.imp fun {x y} h => by rw [hle] at h; simpa using h
    exact (p2.and (show ((bs.mergeSort le).map f).Pairwise (· ≠ ·) from n2)).imp fun {x y} ⟨h1, h2⟩ => by
      cases h3 : b x y with
      | true => rfl
      | false => exact absurd (so.tot _ _ h3 h1) h2
  · rw [mem_sortBy, ← hm]
    exact (pm.map f).mem_iff
theorem rb_iff {x y : Nat × Nat} : recordBefore x y = true ↔ x.1 < y.1 ∨ (x.1 = y.1 ∧ x.2 < y.2) := by
  unfold recordBefore
  simp
theorem rb_false {x y : Nat × Nat} : recordBefore x y = false ↔ ¬ (x.1 < y.1 ∨ (x.1 = y.1 ∧ x.2 < y.2)) := by
  rw [← rb_iff]; simp
theorem so_rec : SO recordBefore where
  irr := fun x => rb_false.mpr (by omega)
  tr := fun x y z h1 h2 => by
    have h1 := rb_iff.mp h1
    have h2 := rb_iff.mp h2
    exact rb_iff.mpr (by omega)
  tot := fun x y h1 h2 => by
    have h1 := rb_false.mp h1
    have h2 := rb_false.mp h2
    obtain ⟨x1, x2⟩ := x
    obtain ⟨y1, y2⟩ := y
    simp only at h1 h2
    have e1 : x1 = y1 := by omega
    have e2 : x2 = y2 := by omega
    rw [e1, e2]
theorem sb_cons (r q : Nat × Nat) (s t : List (Nat × Nat)) : stateBefore (r :: s) (q :: t) = (recordBefore r q || (r == q && stateBefore s t)) := rfl
theorem sb_irr : ∀ x, stateBefore x x = false
  | [] => rfl
  | r :: s => by rw [sb_cons, so_rec.irr, sb_irr s]; simp
theorem sb_tr : ∀ x y z, stateBefore x y = true → stateBefore y z = true → stateBefore x z = true
  | [], [], _, h, _ => by cases h
  | [], _ :: _, [], _, h => by cases h
  | [], _ :: _, _ :: _, _, _ => rfl
  | _ :: _, [], _, h, _ => by cases h
  | _ :: _, _ :: _, [], _, h => by cases h
  | r :: s, q :: t, p :: u, h1, h2 => by
    rw [sb_cons] at h1 h2 ⊢
    simp only [Bool.or_eq_true, Bool.and_eq_true, beq_iff_eq] at h1 h2 ⊢
    rcases h1 with h1 | ⟨rfl, h1⟩
    · rcases h2 with h2 | ⟨rfl, h2⟩
      · exact .inl (so_rec.tr _ _ _ h1 h2)
      · exact .inl h1
    · rcases h2 with h2 | ⟨rfl, h2⟩
      · exact .inl h2
      · exact .inr ⟨rfl, sb_tr s t u h1 h2⟩
theorem sb_tot : ∀ x y, stateBefore x y = false → stateBefore y x = false → x = y
  | [], [], _, _ => rfl
  | [], _ :: _, h, _ => by cases h
  | _ :: _, [], _, h => by cases h
  | r :: s, q :: t, h1, h2 => by
    rw [sb_cons] at h1 h2
    simp only [Bool.or_eq_false_iff] at h1 h2
    have e := so_rec.tot _ _ h1.1 h2.1
    subst e
    have h3 : stateBefore s t = false := by simpa using h1.2
    have h4 : stateBefore t s = false := by simpa using h2.2
    rw [sb_tot s t h3 h4]
theorem so_state : SO stateBefore := ⟨sb_irr, sb_tr, sb_tot⟩
def encR (r : Nat × Nat) : PyData := .tuple [.int (r.1 : Int), .int (r.2 : Int)]
def encS (s : List (Nat × Nat)) : PyData := .tuple (s.map encR)
theorem alike_rec (x y : Nat × Nat) : alike (encR x) (encR y) = true := by simp [encR, alike, alikeAll]
theorem alike_states : ∀ s t : List (Nat × Nat), alikeAll (s.map encR) (t.map encR) = true
  | [], _ => by simp [alikeAll]
  | _ :: _, [] => by simp [alikeAll]
  | x :: s, y :: t => by
    simp only [List.map_cons, alikeAll, alike_rec, alike_states s t, Bool.and_self]
theorem alike_state (s t : List (Nat × Nat)) : alike (encS s) (encS t) = true := by
  simp only [encS, alike, alike_states]
theorem lt_rec (x y : Nat × Nat) : dataLt (encR x) (encR y) = recordBefore x y := by
  unfold encR
  rw [dataLt_ii, Bool.eq_iff_iff, decide_eq_true_iff, rb_iff]
  omega
theorem eqv_rec (x y : Nat × Nat) : PyData.eqv (encR x) (encR y) = (x == y) := by
  obtain ⟨x1, x2⟩ := x
  obtain ⟨y1, y2⟩ := y
  show (((x1 : Int) == (y1 : Int)) && (((x2 : Int) == (y2 : Int)) && true)) = _
  rw [Bool.and_true, Bool.eq_iff_iff]
  simp only [Bool.and_eq_true, beq_iff_eq, Prod.mk.injEq]
  omega
theorem lt_rows : ∀ s t : List (Nat × Nat), rowLt (s.map encR) (t.map encR) = stateBefore s t
  | [], [] => lex_irrefl _
  | [], y :: t => rfl
  | x :: s, [] => rfl
  | x :: s, y :: t => by
    have ih := lt_rows s t
    unfold rowLt at ih ⊢
    rw [List.map_cons, List.map_cons, dataLt_cons (alike_rec x y), ih, eqv_rec, lt_rec, sb_cons]
    by_cases h : x = y
    · subst h
      rw [so_rec.irr]
      simp
    · have : (x == y) = false := beq_eq_false_iff_ne.mpr h
      rw [this]
      simp
theorem lt_state (s t : List (Nat × Nat)) : dataLt (encS s) (encS t) = stateBefore s t := by
  unfold encS
  rw [dataLt_tuple]
  exact lt_rows s t
end Zr
end
section
set_option maxRecDepth 100000
set_option maxHeartbeats 2000000
/-! The desk: possible states, possible records. -/
namespace Zr
open PySem PySem.Spec PyProof.Rows L2 L2H
open Zp (oi)
open Zw (Wd ReP Rel Good stage ab)
open R7289g.Spec (Batch batchAt versionOf recordOf Scene lostPlaces allSome recordBefore stateBefore sortBy)
def recW (r : Nat × Nat) : RWire.Value := .list [.int (r.1 : Int), .int (r.2 : Int)]
theorem given_map {α : Type} (f : α → R7289g.Spec.Plain) (l : List α) : Rust.given (.arr (l.map f)) = .list (l.map fun x => Rust.given (f x)) := by
  show RWire.Value.list (Rust.givenAll (l.map f)) = _
  congr 1
  induction l with
  | nil => rfl
  | cons x l ih => show Rust.given (f x) :: Rust.givenAll (l.map f) = _; rw [ih]; rfl
section
variable {a : Adr}
/-- a comprehension of pieces -/
theorem LcAt.row {G0 H1 : Hp} {D : Addr} {keep : Nat → Bool} {f : Nat → RWire.Value} {n : Nat} {G H : Hp} {ys : List V} (L : LcAt G0 H1 D keep (fun i y G => ∃ p, y = .ref p ∧ PAt a G (f i) p) n G H ys) (hD : H1 D = none) :
    ∃ (G' : Hp) (ps : List Addr), Grow G0 H1 G' H ∧ G' D = some (.lst (ps.map V.ref)) ∧ PAll a G' ((ixs keep n).map f) ps := by
  obtain ⟨ps, rfl, hps⟩ := Each.of_list (R := fun H t v => PAt a H v t) (H := G) ((ixs keep n).map f) ys (by rw [L.len, List.length_map]) fun j y v h1 h2 => by
    obtain ⟨k, h3, p, rfl, h4⟩ := L.el j y h1
    rw [List.getElem?_map, h3] at h2
    cases h2
    exact ⟨p, rfl, h4⟩
  refine ⟨_, ps, L.gr.keep L.at_ hD L.gD, upd_same, pall_of _ _ hps.len.symm fun i v p h1 h2 => ?_⟩
  obtain ⟨v', h3, h4⟩ := hps.get h2
  rw [h1] at h3
  cases h3
  exact PAt.same (sm_upd L.gD) _ _ h4
theorem row_end {G H G1 H1 H2 : Hp} {D p : Addr} {ps : List Addr} {vs : List RWire.Value} (x : Grow G H G1 H1) (eD : G1 D = some (.lst (ps.map V.ref))) (al : PAll a G1 vs ps) (np : H1 p = none) (s : Same H1 H2) (e : Pc a H2 p 7 (.ref D)) :
    ∃ G2, Grow G H G2 H2 ∧ Same G1 G2 ∧ PAt a G2 (.list vs) p := by
  obtain ⟨G2, x2, y2, z2⟩ := grow_pc x np s e
  exact ⟨G2, x2, y2, D, ps, z2, y2 _ _ eD, PAll.same y2 _ _ al⟩
end
/-! ### things as keys that sort -/
structure KeyKind (K : PySem.W.Frag) {κ : Type} [BEq κ] [LawfulBEq κ] (R : Hp → Addr → κ → Prop) (ok : κ → Prop) (key : κ → NestedKey) (enc : κ → PyData) (b : κ → κ → Bool) : Prop where
  inj : ∀ x y, key x = key y → x = y
  dep : ∀ x, (key x).depth ≤ 8
  nk : ∀ H t x, R H t x → NK H (key x) (.ref t)
  dp : ∀ H t x, R H t x → Dp K H (.ref t) (enc x)
  same : ∀ H H' t x, Same H H' → R H t x → R H' t x
  al : ∀ x y, PySem.W.alike (enc x) (enc y) = true
  tup : ∀ x, ok x → ∃ y r, enc x = .tuple (y :: r)
  lt : ∀ x y, PySem.W.dataLt (enc x) (enc y) = b x y
  so : SO b
  d50 : ∀ x, (enc x).depth ≤ 50
section
variable {K : PySem.W.Frag} {κ : Type} [BEq κ] [LawfulBEq κ] {R : Hp → Addr → κ → Prop} {ok : κ → Prop} {key : κ → NestedKey} {enc : κ → PyData} {b : κ → κ → Bool}
def entK (key : κ → NestedKey) (bs : List (κ × Addr)) : List Ent := bs.map fun x => (key x.1, x.2)
/-- what a comprehension of (thing, True) leaves -/
theorem pairs_left {G : Hp} (ks : List κ) : ∀ ys : List V, ys.length = ks.length → (∀ (j : Nat) y k, ys[j]? = some y → ks[j]? = some k → ∃ t tr, y = .ref t ∧ G t = some (.tup [.ref tr, .bl true]) ∧ R G tr k) →
    ∃ (ts : List Addr) (bs : List (κ × Addr)), ys = ts.map V.ref ∧ ts.length = bs.length ∧ bs.map (·.1) = ks ∧ (∀ (i : Nat) t x, ts[i]? = some t → bs[i]? = some x → G t = some (.tup [.ref x.2, .bl true])) ∧ ∀ x ∈ bs, R G x.2 x.1 := by
  induction ks with
  | nil =>
    intro ys h _
    have : ys = [] := List.eq_nil_of_length_eq_zero h
    subst this
    exact ⟨[], [], rfl, rfl, rfl, fun i t x h => by simp at h, fun x h => by cases h⟩
  | cons k ks ih =>
    intro ys h hh
    cases ys with
    | nil => simp at h
    | cons y ys =>
      obtain ⟨t, tr, rfl, h1, h2⟩ := hh 0 y k rfl rfl
      obtain ⟨ts, bs, rfl, h3, h4, h5, h6⟩ := ih ys (by simpa using h) fun j y k h1 h2 => hh (j + 1) y k h1 h2
      refine ⟨t :: ts, (k, tr) :: bs, rfl, by simp [h3], by simp [h4], fun i t' x e1 e2 => ?_, fun x hx => ?_⟩
      · cases i with
        | zero => cases e1; cases e2; exact h1
        | succ i => exact h5 i t' x (by simpa using e1) (by simpa using e2)
      · rcases List.mem_cons.mp hx with rfl | hx
        · exact h2
        · exact h6 x hx
theorem ent_back (kk : KeyKind K R ok key enc b) {bs : List (κ × Addr)} : ∀ {L : List Ent}, (∀ x ∈ L, x ∈ entK key bs) → ∃ bs' : List (κ × Addr), L = entK key bs' ∧ ∀ x ∈ bs', x ∈ bs
  | [], _ => ⟨[], rfl, fun x h => by cases h⟩
  | x :: L, h => by
    obtain ⟨bs', e, h'⟩ := ent_back kk (L := L) fun y hy => h y (List.mem_cons_of_mem _ hy)
    obtain ⟨z, hz, rfl⟩ := List.mem_map.mp (h x List.mem_cons_self)
    refine ⟨z :: bs', by rw [e]; rfl, fun y hy => ?_⟩
    rcases List.mem_cons.mp hy with rfl | hy
    · exact hz
    · exact h' y hy
theorem ent_fst (bs : List (κ × Addr)) : (entK key bs).map (·.1) = bs.map fun x => key x.1 := by
  unfold entK
  rw [List.map_map]
  rfl
/-- the order of what was kept once each -/
theorem sorted_kept (kk : KeyKind K R ok key enc b) {bs bs' : List (κ × Addr)} {l : List κ} (hn : ((entK key bs').map (·.1)).Nodup) (hk : ∀ k, k ∈ (entK key bs').map (·.1) ↔ k ∈ (entK key bs).map (·.1)) (hl : ∀ y, y ∈ bs.map (·.1) ↔ y ∈ l) :
    (bs'.mergeSort (PySem.W.dataLe false fun x : κ × Addr => enc x.1)).map (·.1) = sortBy b l := by
  refine sort_map kk.so (fun x : κ × Addr => x.1) (fun x y => ?_) ?_ fun y => ?_
  · rw [PySem.W.dataLe_eq]
    show (!PySem.W.dataLt (enc y.1) (enc x.1)) = _
    rw [kk.lt]
  · rw [ent_fst] at hn
    have hn : (bs'.map fun x => key x.1).Pairwise (· ≠ ·) := hn
    rw [List.pairwise_map] at hn
    show (bs'.map (·.1)).Pairwise (· ≠ ·)
    rw [List.pairwise_map]
    exact hn.imp fun {x y} h e => h (by rw [e])
  · rw [← hl]
    have h := hk (key y)
    rw [ent_fst, ent_fst, List.mem_map, List.mem_map] at h
    rw [List.mem_map, List.mem_map]
    constructor
    · rintro ⟨x, hx, rfl⟩
      obtain ⟨z, hz, e⟩ := h.mp ⟨x, hx, rfl⟩
      exact ⟨z, hz, kk.inj _ _ e⟩
    · rintro ⟨x, hx, rfl⟩
      obtain ⟨z, hz, e⟩ := h.mpr ⟨x, hx, rfl⟩
      exact ⟨z, hz, kk.inj _ _ e⟩
end
theorem kind_rec {K : PySem.W.Frag} : KeyKind K (fun H t r => RecAt H t r) (fun _ => True) (fun r : Nat × Nat => .tup [.num (r.1 : Int), .num (r.2 : Int)]) encR recordBefore where
  inj := fun x y h => by
    have h : kRs [x] = kRs [y] := by
      show [NestedKey.tup [.num (x.1 : Int), .num (x.2 : Int)]] = [NestedKey.tup [.num (y.1 : Int), .num (y.2 : Int)]]
      rw [h]
    have := kRs_inj h
    injection this
  dep := fun x => by
    show max 0 (max 0 0) + 1 ≤ 8
    decide
  nk := fun H t x h => nk_rec h
  dp := fun H t x h => Dp.tup (SqT.of h) (.cons (.int _) (.cons (.int _) .nil))
  same := fun H H' t x s h => s _ _ h
  al := alike_rec
  tup := fun x _ => ⟨_, _, rfl⟩
  lt := lt_rec
  so := so_rec
  d50 := fun x => by
    show max 0 (max 0 0) + 1 ≤ 50
    decide
theorem dps_recs {K : PySem.W.Frag} {H : Hp} : ∀ {s : List (Nat × Nat)} {ts : List Addr}, PrsT H s ts → DpAll K H (ts.map V.ref) (s.map encR)
  | [], _, h => by subst h; exact .nil
  | x :: s, _, ⟨t, r, e1, h1, h2⟩ => by
    subst e1
    exact .cons (Dp.tup (SqT.of h1) (.cons (.int _) (.cons (.int _) .nil))) (dps_recs h2)
theorem depth_recs : ∀ s : List (Nat × Nat), PyData.depthAll (s.map encR) ≤ 1
  | [] => Nat.zero_le _
  | x :: s => by
    have := depth_recs s
    show max (max 0 (max 0 0) + 1) (PyData.depthAll (s.map encR)) ≤ 1
    omega
theorem kind_state {K : PySem.W.Frag} : KeyKind K (fun H t s => RcsAt H t s) (fun s => s ≠ []) (fun s : List (Nat × Nat) => .tup (kRs s)) encS stateBefore where
  inj := fun x y h => kRs_inj (by injection h)
  dep := fun x => by
    have := dep_rs x
    show NestedKey.depthAll (kRs x) + 1 ≤ 8
    omega
  nk := fun H t x h => nk_rcs h
  dp := fun H t x ⟨ts, h1, h2⟩ => Dp.tup (SqT.of h1) (dps_recs h2)
  same := fun H H' t x s h => h.same s
  al := alike_state
  tup := fun x h => by
    cases x with
    | nil => exact absurd rfl h
    | cons y r => exact ⟨_, _, rfl⟩
  lt := lt_state
  so := so_state
  d50 := fun x => by
    have := depth_recs x
    show PyData.depthAll (x.map encR) + 1 ≤ 50
    omega
section
variable {P : Program} {w : World} {K : PySem.W.Frag} {mg : Str → Option Value} {base : Heap} {a : Adr}
def spRecTold (a : Adr) : Sp := sp1 fun x H Q E => ∃ (t : Addr) (r : Nat × Nat) (G : Hp), x = .ref t ∧ RecAt H t r ∧ Same G H ∧ spPA a (recW r) G H Q
theorem c_record_told (T : Txt K mg a) : Cal P w K mg base 4 "record_told" (spRecTold a) := by
  refine cal T.d_record_told sc_record_told len1 fun f cdv A outer s H vs Q E hr h => ?_
  obtain ⟨_, rfl, t, r, G, rfl, ht, sG, q⟩ := h
  refine ⟨_, (pss_one (ps_ret (pe_cw (c_row T) (roomH_of hr) (by decide) (.inl rfl) rfl (pa_cons (pe_lc (own := [("own", 1)]) (g := (gName 1)) (tt := tYes) rfl sc_record_told.nd (pi_tup (pv 0)) (blkOk_by (N := ["record", "own"]) (sc := defScope s_record_told) (by decide +kernel)) (fun _ _ _ _ _ => (pg_name (i := 1) sc_record_told.nd rfl (Or.inl rfl))) (fun _ _ _ _ _ => pts_nil) (fun _ _ _ _ _ => (pe_c (c_number T) hr (by decide) rfl (pa_cons (pv 1) pa_nil)))) pa_nil)))), ?_⟩
  refine ⟨_, rfl, t, rfl, ⟨_, SqT.of ht⟩, fun D hD => lc_t (xs := [.int (r.1 : Int), .int (r.2 : Int)]) (G0 := G) (fun _ => true) (fun i y G' => ∃ p, y = .ref p ∧ PAt a G' (([RWire.Value.int (r.1 : Int), .int (r.2 : Int)]).getD i .nothing) p) (SqT.of ht) hD sG (by show 2 ≤ 16000000; decide) ?_ ?_ ?_⟩
  · rintro i y G1 G2 s1 ⟨p, h1, h2⟩
    exact ⟨p, h1, PAt.same s1 _ _ h2⟩
  · intro i x G1 H1 hx gr Yes No k _
    match i, hx with
    | 0, hx =>
      cases hx
      refine ⟨rfl, _, rfl, _, rfl, _, rfl, fun H2 p2 n2 s2 e2 => ?_⟩
      obtain ⟨G3, x3, y3, z3⟩ := grow_pc (Grow.refl gr.sub) n2 s2 e2
      exact k rfl _ G3 H2 x3 ⟨p2, rfl, z3⟩
    | 1, hx =>
      cases hx
      refine ⟨rfl, _, rfl, _, rfl, _, rfl, fun H2 p2 n2 s2 e2 => ?_⟩
      obtain ⟨G3, x3, y3, z3⟩ := grow_pc (Grow.refl gr.sub) n2 s2 e2
      exact k rfl _ G3 H2 x3 ⟨p2, rfl, z3⟩
    | _ + 2, hx => simp at hx
  · intro G1 H1 ys L
    obtain ⟨G2, ps, x2, eD, al⟩ := L.row hD
    refine ⟨_, rfl, D, rfl, fun H3 p3 n3 s3 e3 => ?_⟩
    obtain ⟨G3, x3, _, z3⟩ := row_end x2 eD al n3 s3 e3
    exact q G3 H3 p3 x3 (sm_none x2.same n3) z3
end
end Zr
end
section
set_option maxRecDepth 100000
set_option maxHeartbeats 2000000
/-! The desk: the doors that ask of states and records. -/
namespace Zr
open PySem PySem.Spec PyProof.Rows L2 L2H
open Zp (oi)
open Zw (Wd ReP Rel Good stage ab)
open R7289g.Spec (Batch batchAt versionOf recordOf Scene lostPlaces allSome recordBefore stateBefore sortBy)
section
variable {P : Program} {w : World} {K : PySem.W.Frag} {mg : Str → Option Value} {base : Heap} {a : Adr}
/-- a door that asks: nothing that was changes -/
def spQ (a : Adr) (res : R7289g.Spec.Plain → R7289g.Spec.Plain → R7289g.Spec.Plain → R7289g.Spec.Res R7289g.Spec.Plain) : Sp := sp2 fun x y H Q E => ∃ (g q0 q1 q2 q3 : Addr) (v0 v1 v2 : RWire.Value), y = .ref g ∧ H g = some (.lst (.ref q0 :: .ref q1 :: [q2, q3].map V.ref)) ∧ PAt a H v0 q0 ∧ PAt a H v1 q1 ∧ PAt a H v2 q2 ∧
  (∀ err k m, res (Rust.taken v0) (Rust.taken v1) (Rust.taken v2) = .error err → EIs err k m → ∀ H', Same H H' → ERef a k m H' E) ∧
  ∀ p, res (Rust.taken v0) (Rust.taken v1) (Rust.taken v2) = .ok p → ∀ H' q, Same H H' → PAt a H' (Rust.given p) q → Q (.ref q) H'
theorem ask {H : Hp} {g q0 q1 x dx : Addr} {qs : List Addr} {v0 v1 : RWire.Value} {R : Hp → Prop} {E : XK} (hg : H g = some (.lst (.ref q0 :: .ref q1 :: qs.map V.ref))) (h0 : PAt a H v0 q0) (h1 : PAt a H v1 q1) (hx : H x = none) (hd : H dx = none)
    (he : ∀ err k m, R7289g.Spec.logArg (Rust.taken v0) (Rust.taken v1) = .error err → EIs err k m → ∀ H', Same H H' → ERef a k m H' E)
    (ho : ∀ n l ws G' H', R7289g.Spec.logArg (Rust.taken v0) (Rust.taken v1) = .ok (n, l) → Asked n l ws → Grow H H G' H' → QAt a G' x n l ws → R H') :
    spQuest a (.ref x :: [.ref g]) (upd (upd H dx (.own x)) x (.ins a.quest dx [])) (fun v H2 => v = .non ∧ R H2) E :=
  ⟨x, g, dx, q0, q1, qs, v0, v1, H, H, rfl, upd_same, hg, h0, h1, ((Grow.refl (Same.refl H)).poke hd hd).poke hx hx, hx, hx, he, fun n l ws G' H' h1 h2 h3 h4 => ⟨rfl, ho n l ws G' H' h1 h2 h3 h4⟩⟩
theorem range_all {α β : Type} (l : List α) (d : α) (f : α → β) : (ixs (fun _ => true) l.length).map (fun i => f (l.getD i d)) = l.map f := by
  rw [ixs_all]
  exact range_map l d f
def rStates (x y _z : R7289g.Spec.Plain) : R7289g.Spec.Res R7289g.Spec.Plain := R7289g.Spec.statesFn x y
theorem c_possible_states (T : Txt K mg a) : CalX P w K mg base 8 "possible_states" (spQ a rStates) := by
  refine calX T.d_possible_states sc_possible_states len2 fun f cdv A outer s H vs Q E hr h => ?_
  obtain ⟨dk, _, rfl, g, q0, q1, q2, q3, v0, v1, v2, rfl, hg, hv0, hv1, hv2, qe, qo⟩ := h
  refine ⟨_, (pss_cons (ps_set (i := 2) sc_possible_states.nd rfl (Or.inl rfl) (pe_mkx (m_Question T) hr (by decide) (L2N.takes_of rfl rfl rfl rfl) rfl (pa_cons (pv 1) pa_nil)))
    (pss_cons (ps_set (i := 3) sc_possible_states.nd rfl (Or.inl rfl) (pe_callTy (call_dictPN rfl hr.units) rfl T.b_dict (by decide +kernel) (pa_cons (pe_lc (own := [("world", 4)]) (g := (gName 4)) (tt := tYes) rfl sc_possible_states.nd (pi_list (pe_f T.c_Question.cl T.n_Question_worlds (pv 2))) (blkOk_by (N := ["desk", "given", "question", "found", "world", "record", "state"]) (sc := defScope s_possible_states) (by decide +kernel)) (fun _ _ _ _ _ => (pg_name (i := 4) sc_possible_states.nd rfl (Or.inl rfl))) (fun _ _ _ _ _ => pts_nil) (fun _ _ _ _ _ => (pe_tup (pa_cons (pe_ix (show IxR _ (rIxT K) from ix_tup) (pv 4) pe_int (fun _ _ => rfl)) (pa_cons pe_bl pa_nil))))) pa_nil)))
    (pss_one (ps_ret (pe_cw (c_row T) (roomH_of hr) (by decide) (.inl rfl) rfl (pa_cons (pe_lc (own := [("state", 6)]) (g := (gName 6)) (tt := tYes) rfl sc_possible_states.nd (pi_list (pe_callB (cr_sortedD hr) rfl T.b_sorted (by decide +kernel) (pa_cons (pe_callTy (call_list_dN rfl) rfl T.b_list (by decide +kernel) (pa_cons (pv 3) pa_nil)) pa_nil))) (blkOk_by (N := ["desk", "given", "question", "found", "world", "record", "state"]) (sc := defScope s_possible_states) (by decide +kernel)) (fun _ _ _ _ _ => (pg_name (i := 6) sc_possible_states.nd rfl (Or.inl rfl))) (fun _ _ _ _ _ => pts_nil) (fun _ _ _ _ _ => (pe_cw (c_row T) (roomH_of hr) (by decide) (.inl rfl) rfl (pa_cons (pe_lc (own := [("record", 5)]) (g := (gName 5)) (tt := tYes) rfl sc_possible_states.nd (show PI _ _ _ (iTup K _) from pi_tup (pv 6)) (blkOk_by (N := ["desk", "given", "question", "found", "world", "record", "state"]) (sc := relS _ (defScope s_possible_states)) (by decide +kernel)) (fun _ _ _ _ _ => (pg_name (i := 5) sc_possible_states.nd rfl (Or.inl rfl))) (fun _ _ _ _ _ => pts_nil) (fun _ _ _ _ _ => (pe_c (c_record_told T) hr (by decide) rfl (pa_cons (pv 5) pa_nil)))) pa_nil)))) pa_nil)))))), ?_⟩
  refine ⟨_, rfl, ?_⟩
  intro x dx hx hdx hne
  refine ask hg hv0 hv1 hx hdx (fun err k m h hi => qe err k m (by unfold rStates R7289g.Spec.statesFn; rw [h]; rfl) hi) fun n l ws G1 H1 he as x1 qa => ?_
  have qo := qo _ (by unfold rStates R7289g.Spec.statesFn; rw [he]; rfl)
  obtain ⟨lg, wt, ⟨dxq, eq⟩, hlog, wts, ew, hwt⟩ := qa
  have hwn := hwt.len
  have hfew := as.all.few
  refine ⟨_, rfl, x, dxq, _, _, rfl, x1.sub _ _ eq, rfl, wt, rfl, ⟨_, SqL.of (x1.sub _ _ ew)⟩, fun D hD => lc_l (xs := wts.map V.ref) (G0 := G1) (fun _ => true) (fun i y G' => ∃ t tr, y = .ref t ∧ G' t = some (.tup [.ref tr, .bl true]) ∧ RcsAt G' tr (ws.getD i w0).1) (SqL.of (x1.sub _ _ ew)) hD x1.sub (by rw [List.length_map]; omega) ?_ ?_ ?_⟩
  · rintro i y G2 G3 s2 ⟨t, tr, h1, h2, h3⟩
    exact ⟨t, tr, h1, s2 _ _ h2, h3.same s2⟩
  · intro i z G2 H2 hx gr Yes No k _
    obtain ⟨t, ht, rfl⟩ := get_ref hx
    obtain ⟨wd, h2, tr, tq, td, etw, hrc, hq, hdn⟩ := hwt.get ht
    refine ⟨rfl, _, rfl, t, _, _, _, rfl, rfl, SqT.of (gr.sub _ _ (gr.up _ _ etw)), atI_nat (j := 0) rfl, fit rfl, fun p np => ?_⟩
    have gp := sm_none gr.sub np
    refine k rfl _ _ _ (((Grow.refl gr.sub).loose (sm_upd (o := .tup [.ref tr, .bl true]) np)).keep upd_same np gp) ⟨p, tr, rfl, upd_same, ?_⟩
    rw [List.getD_eq_getElem?_getD, h2]
    exact (hrc.same gr.up).same (sm_upd gp)
  intro G2 H2 ys L
  obtain ⟨hyl, hye⟩ := L.each
  have hyl2 : ys.length = (ws.map (·.1)).length := by rw [hyl, List.length_map, List.length_map, hwn]
  obtain ⟨ts, bs, rfl, hl, hks, htup, hR⟩ := pairs_left (R := fun H t s => RcsAt H t s) (G := G2) (ws.map (·.1)) ys hyl2 fun j y k h1 h2 => by
    obtain ⟨t, tr, h3, h4, h5⟩ := hye j y h1
    rw [List.getElem?_map] at h2
    cases hw : ws[j]? with
    | none => rw [hw] at h2; cases h2
    | some wd =>
      rw [hw] at h2
      cases h2
      rw [List.getD_eq_getElem?_getD, hw] at h5
      exact ⟨t, tr, h3, h4, h5⟩
  have kk := kind_state (K := K)
  have sub2 := L.gr.sub
  refine ⟨D, ts, entK (fun s : List (Nat × Nat) => .tup (kRs s)) bs, rfl, SqL.of L.at_, by unfold entK; rw [List.length_map, hl], fun i t y e1 e2 => ?_, fun y hy => ?_, fun p Ld np nd mem keys => ?_⟩
  · unfold entK at e2
    rw [List.getElem?_map] at e2
    cases hb : bs[i]? with
    | none => rw [hb] at e2; cases e2
    | some b =>
      rw [hb] at e2
      cases e2
      exact sub2 _ _ (htup i t b e1 hb)
  · obtain ⟨b, hb, rfl⟩ := List.mem_map.mp hy
    exact ⟨kk.nk _ _ _ (kk.same _ _ _ _ sub2 (hR b hb)), kk.dep b.1⟩
  obtain ⟨bs', rfl, hbs'⟩ := ent_back kk mem
  have hord := sorted_kept kk (l := (R7289g.Spec.worlds n l).map fun w => w.state) nd keys fun y => by
    rw [hks, List.mem_map, List.mem_map]
    constructor
    · rintro ⟨wd, hw, rfl⟩
      obtain ⟨s, hs, rfl⟩ := (as.all.rel.mem wd).mp hw
      exact ⟨s, hs, rfl⟩
    · rintro ⟨s, hs, rfl⟩
      exact ⟨ab l s, (as.all.rel.mem _).mpr ⟨s, hs, rfl⟩, rfl⟩
  have s3 := sm_upd (o := dN P w p (entK (fun s : List (Nat × Nat) => .tup (kRs s)) bs')) np
  refine ⟨_, rfl, p, entK (fun s : List (Nat × Nat) => .tup (kRs s)) bs', rfl, upd_same, fun p2 np2 => ?_⟩
  have s4 := s3.trans (sm_upd (o := .lst ((entK (fun s : List (Nat × Nat) => NestedKey.tup (kRs s)) bs').map fun x => V.ref x.2)) np2)
  have sub4 := sub2.trans s4
  have hne : ∀ b ∈ bs', b.1 ≠ [] := fun b hb e => by
    have hm : b.1 ∈ bs.map (·.1) := List.mem_map.mpr ⟨b, hbs' b hb, rfl⟩
    rw [hks] at hm
    obtain ⟨wd, hw, e2⟩ := List.mem_map.mp hm
    have := (as.all.fine wd hw).1.len
    rw [e2, e] at this
    have := as.n1
    simp at *
    omega
  have elist : (entK (fun s : List (Nat × Nat) => NestedKey.tup (kRs s)) bs').map (fun x => V.ref x.2) = bs'.map fun b => V.ref b.2 := by
    unfold entK
    rw [List.map_map]
    rfl
  refine ⟨List (Nat × Nat) × Addr, bs', fun b => b.2, fun b => encS b.1, p2, rfl, SqL.of (by rw [upd_same, elist]), fun b hb => kk.dp _ _ _ (kk.same _ _ _ _ sub4 (hR b (hbs' b hb))), PySem.W.AllAlike.of (enc := fun b : List (Nat × Nat) × Addr => encS b.1) fun b b' => kk.al _ _, .inl fun d hd => ?_, fun b _ => kk.d50 b.1, fun p3 np3 => ?_⟩
  · obtain ⟨b, hb, rfl⟩ := List.mem_map.mp hd
    exact kk.tup b.1 (hne b hb)
  generalize hso : bs'.mergeSort (PySem.W.dataLe false fun b : List (Nat × Nat) × Addr => encS b.1) = so at hord
  have hmem : ∀ b ∈ so, b ∈ bs := fun b hb => hbs' b ((List.mergeSort_perm _ _).mem_iff.mp (by rw [hso]; exact hb))
  have s5 := s4.trans (sm_upd (o := .lst (so.map fun b => V.ref b.2)) np3)
  have hsl : so.length ≤ 300000 := by
    rw [← hso, List.length_mergeSort]
    have h1 := Zw.nodup_len (l := bs'.map (·.1)) (m := ws.map (·.1)) ?_ fun y hy => ?_
    · rw [List.length_map, List.length_map] at h1
      omega
    · rw [ent_fst] at nd
      have nd : (bs'.map fun x => NestedKey.tup (kRs x.1)).Pairwise (· ≠ ·) := nd
      rw [List.pairwise_map] at nd
      show (bs'.map (·.1)).Pairwise (· ≠ ·)
      rw [List.pairwise_map]
      exact nd.imp fun {x y} h e => h (by rw [e])
    · obtain ⟨b, hb, rfl⟩ := List.mem_map.mp hy
      rw [← hks]
      exact List.mem_map.mpr ⟨b, hbs' b hb, rfl⟩
  refine ⟨p3, rfl, ⟨_, SqL.of upd_same⟩, fun D5 hD5 => lc_l (xs := so.map fun b => V.ref b.2) (G0 := G2) (fun _ => true) (fun i y G' => ∃ p, y = .ref p ∧ PAt a G' ((fun b : List (Nat × Nat) × Addr => RWire.Value.list (b.1.map recW)) (so.getD i ([], 0))) p) (SqL.of upd_same) hD5 (sub2.trans s5) (by rw [List.length_map]; omega) ?_ ?_ ?_⟩
  · rintro i y G3 G4 s6 ⟨p, h1, h2⟩
    exact ⟨p, h1, PAt.same s6 _ _ h2⟩
  · intro i z G3 H3 hx gr Yes No k _
    obtain ⟨b, hb, rfl⟩ : ∃ b, so[i]? = some b ∧ z = .ref b.2 := by
      rw [List.getElem?_map] at hx
      cases e : so[i]? with
      | none => rw [e] at hx; cases hx
      | some t => rw [e] at hx; cases hx; exact ⟨t, rfl, rfl⟩
    obtain ⟨rts, ert, hrt⟩ := (hR b (hmem b (List.mem_of_getElem? hb))).same gr.up
    have hrl := hrt.len
    have hbl : b.1.length = n := by
      have hm : b.1 ∈ bs.map (·.1) := List.mem_map.mpr ⟨b, hmem b (List.mem_of_getElem? hb), rfl⟩
      rw [hks] at hm
      obtain ⟨wd, hw, e2⟩ := List.mem_map.mp hm
      rw [← e2]
      exact (as.all.fine wd hw).1.len
    have h4 := as.n4
    refine ⟨rfl, _, rfl, b.2, rfl, ⟨_, SqT.of (gr.sub _ _ ert)⟩, fun D6 hD6 => lc_t (xs := rts.map V.ref) (G0 := G3) (fun _ => true) (fun j y G' => ∃ p, y = .ref p ∧ PAt a G' (recW (b.1.getD j (0, 0))) p) (SqT.of (gr.sub _ _ ert)) hD6 gr.sub (by rw [List.length_map]; omega) ?_ ?_ ?_⟩
    · rintro j y G4 G5 s6 ⟨p, h1, h2⟩
      exact ⟨p, h1, PAt.same s6 _ _ h2⟩
    · intro j z G4 H4 hx gr2 Yes2 No2 k2 _
      obtain ⟨t, ht, rfl⟩ := get_ref hx
      obtain ⟨r, h2, h3⟩ := hrt.get ht
      refine ⟨rfl, _, rfl, _, rfl, t, r, G4, rfl, gr2.sub _ _ (gr2.up _ _ h3), gr2.sub, fun G5 H5 q5 x5 n5 r5 => k2 rfl _ G5 H5 x5 ⟨q5, rfl, ?_⟩⟩
      rw [List.getD_eq_getElem?_getD, h2]
      exact r5
    · intro G4 H4 zs L4
      obtain ⟨G5, ps, x5, eD, al⟩ := L4.row hD6
      refine ⟨_, rfl, D6, rfl, fun H6 p6 n6 s6 e6 => ?_⟩
      obtain ⟨G6, x6, _, z6⟩ := row_end x5 eD al n6 s6 e6
      refine k rfl _ G6 H6 x6 ⟨p6, rfl, ?_⟩
      rw [List.getD_eq_getElem?_getD, hb]
      have e7 : (ixs (fun _ => true) (rts.map V.ref).length).map (fun j => recW (b.1.getD j (0, 0))) = b.1.map recW := by
        rw [List.length_map, hrl]
        exact range_all b.1 (0, 0) recW
      rw [e7] at z6
      exact z6
  · intro G3 H3 zs L3
    obtain ⟨G4, ps, x4, eD, al⟩ := L3.row hD5
    refine ⟨_, rfl, D5, rfl, fun H6 p6 n6 s6 e6 => ?_⟩
    obtain ⟨G6, x6, _, z6⟩ := row_end x4 eD al n6 s6 e6
    refine qo H6 p6 ((x1.same.trans L.gr.same).trans (s5.trans x6.same)) ?_
    have e7 : (ixs (fun _ => true) (so.map fun b => V.ref b.2).length).map (fun j => (fun b : List (Nat × Nat) × Addr => RWire.Value.list (b.1.map recW)) (so.getD j ([], 0))) = (R7289g.Spec.possibleStates n l).map fun s => RWire.Value.list (s.map recW) := by
      rw [List.length_map]
      have := range_all so ([], 0) (fun b : List (Nat × Nat) × Addr => RWire.Value.list (b.1.map recW))
      rw [this]
      unfold R7289g.Spec.possibleStates
      rw [← hord, List.map_map]
      rfl
    rw [e7] at z6
    have e8 : Rust.given (.arr ((R7289g.Spec.possibleStates n l).map fun s => .arr (s.map R7289g.Spec.recordPlain))) = .list ((R7289g.Spec.possibleStates n l).map fun s => RWire.Value.list (s.map recW)) := by
      rw [given_map]
      congr 1
      apply List.map_congr_left
      intro s _
      rw [given_map]
      rfl
    show PAt a H6 (Rust.given (.arr ((R7289g.Spec.possibleStates n l).map fun s => .arr (s.map R7289g.Spec.recordPlain)))) p6
    rw [e8]
    exact PAt.same x6.sub _ _ z6
end
end Zr
end
section
set_option maxRecDepth 100000
set_option maxHeartbeats 2000000
/-! The desk: the door that asks of records. -/
namespace Zr
open PySem PySem.Spec PyProof.Rows L2 L2H
open Zp (oi)
open Zw (Wd ReP Rel Good stage ab)
open R7289g.Spec (Batch batchAt versionOf recordOf Scene lostPlaces allSome recordBefore stateBefore sortBy)
def keyR (r : Nat × Nat) : NestedKey := .tup [.num (r.1 : Int), .num (r.2 : Int)]
section
variable {P : Program} {w : World} {K : PySem.W.Frag} {mg : Str → Option Value} {base : Heap} {a : Adr}
def rRecords (x y z : R7289g.Spec.Plain) : R7289g.Spec.Res R7289g.Spec.Plain := R7289g.Spec.recordsFn x y z
theorem c_possible_records (T : Txt K mg a) : CalX P w K mg base 8 "possible_records" (spQ a rRecords) := by
  refine calX T.d_possible_records sc_possible_records len2 fun f cdv A outer s H vs Q E hr h => ?_
  obtain ⟨dk, _, rfl, g, q0, q1, q2, q3, v0, v1, v2, rfl, hg, hv0, hv1, hv2, qe, qo⟩ := h
  refine ⟨_, (pss_cons (ps_set (i := 2) sc_possible_records.nd rfl (Or.inl rfl) (pe_mkx (m_Question T) hr (by decide) (L2N.takes_of rfl rfl rfl rfl) rfl (pa_cons (pv 1) pa_nil)))
    (pss_cons (ps_set (i := 3) sc_possible_records.nd rfl (Or.inr rfl) (pe_cx (c_key_of T) hr (by decide) (L2N.takes_of rfl rfl rfl rfl) rfl (pa_cons (pe_ix ix_list (pv 1) pe_int (fun _ _ => rfl)) (pa_cons (pe_f T.c_Question.cl T.n_Question_many (pv 2)) pa_nil))))
    (pss_cons (ps_set (i := 4) sc_possible_records.nd rfl (Or.inl rfl) (pe_callTy (call_dictPN rfl hr.units) rfl T.b_dict (by decide +kernel) (pa_cons (pe_lc (own := [("world", 5)]) (g := (gName 5)) (tt := tYes) rfl sc_possible_records.nd (pi_list (pe_f T.c_Question.cl T.n_Question_worlds (pv 2))) (blkOk_by (N := ["desk", "given", "question", "key", "found", "world", "record"]) (sc := defScope s_possible_records) (by decide +kernel)) (fun _ _ _ _ _ => (pg_name (i := 5) sc_possible_records.nd rfl (Or.inl rfl))) (fun _ _ _ _ _ => pts_nil) (fun _ _ _ _ _ => (pe_tup (pa_cons (pe_ix (show IxR _ (rIxT K) from ix_tup) (pe_ix (show IxR _ (rIxT K) from ix_tup) (pv 5) pe_int (fun _ _ => rfl)) (pv 3) (fun _ _ => rfl)) (pa_cons pe_bl pa_nil))))) pa_nil)))
    (pss_one (ps_ret (pe_cw (c_row T) (roomH_of hr) (by decide) (.inl rfl) rfl (pa_cons (pe_lc (own := [("record", 6)]) (g := (gName 6)) (tt := tYes) rfl sc_possible_records.nd (pi_list (pe_callB (cr_sortedD hr) rfl T.b_sorted (by decide +kernel) (pa_cons (pe_callTy (call_list_dN rfl) rfl T.b_list (by decide +kernel) (pa_cons (pv 4) pa_nil)) pa_nil))) (blkOk_by (N := ["desk", "given", "question", "key", "found", "world", "record"]) (sc := defScope s_possible_records) (by decide +kernel)) (fun _ _ _ _ _ => (pg_name (i := 6) sc_possible_records.nd rfl (Or.inl rfl))) (fun _ _ _ _ _ => pts_nil) (fun _ _ _ _ _ => (pe_c (c_record_told T) hr (by decide) rfl (pa_cons (pv 6) pa_nil)))) pa_nil))))))), ?_⟩
  refine ⟨_, rfl, ?_⟩
  intro x dx hx hdx hne
  refine ask hg hv0 hv1 hx hdx (fun err k m h hi => qe err k m (by unfold rRecords R7289g.Spec.recordsFn; rw [h]; rfl) hi) fun n l ws G1 H1 he as x1 qa => ?_
  obtain ⟨lg, wt, ⟨dxq, eq⟩, hlog, wts, ew, hwt⟩ := qa
  have hwn := hwt.len
  have hfew := as.all.few
  have i2 : (V.ref q0 :: V.ref q1 :: [q2, q3].map V.ref)[2]? = some (.ref q2) := rfl
  have hkin : R7289g.Spec.keyIn n (Rust.taken v2) = keyV n v2 := keyIn_taken as.n1 as.n4 v2
  have efn : R7289g.Spec.recordsFn (Rust.taken v0) (Rust.taken v1) (Rust.taken v2) = R7289g.Spec.andThen (R7289g.Spec.orElse R7289g.Spec.noKey (keyV n v2)) fun k => .ok (.arr ((R7289g.Spec.possibleRecords n l k).map R7289g.Spec.recordPlain)) := by
    unfold R7289g.Spec.recordsFn
    rw [he]
    show R7289g.Spec.andThen (R7289g.Spec.orElse R7289g.Spec.noKey (R7289g.Spec.keyIn n (Rust.taken v2))) _ = _
    rw [hkin]
  unfold rRecords at qe qo
  rw [efn] at qe qo
  refine ⟨_, rfl, g, _, _, _, rfl, rfl, SqL.of (x1.same _ _ hg), atI_nat i2, _, rfl, x, dxq, _, _, rfl, x1.sub _ _ eq, rfl, _, _, rfl, q2, v2, n, rfl, rfl, PAt.same x1.same _ _ hv2, fun h5 => qe _ 2 mKey ?_ e_key H1 x1.same, fun ki hki h5 => ?_⟩
  · unfold keyV
    rw [h5]
    rfl
  subst hki
  obtain ⟨ki', hki', hi1, hi2⟩ := isNum_val h5
  cases hki'
  obtain ⟨kx, rfl⟩ := Int.eq_ofNat_of_zero_le hi1
  have hkn : kx < n := by omega
  have hkv : keyV n (.int (kx : Int)) = some kx := by
    unfold keyV
    rw [h5]
    rfl
  rw [hkv] at qo
  have qo := qo _ rfl
  refine ⟨_, rfl, x, dxq, _, _, rfl, x1.sub _ _ eq, rfl, wt, rfl, ⟨_, SqL.of (x1.sub _ _ ew)⟩, fun D hD => lc_l (xs := wts.map V.ref) (G0 := G1) (fun _ => true) (fun i y G' => ∃ t tr, y = .ref t ∧ G' t = some (.tup [.ref tr, .bl true]) ∧ RecAt G' tr (recordOf (ws.getD i w0).1 kx)) (SqL.of (x1.sub _ _ ew)) hD x1.sub (by rw [List.length_map]; omega) ?_ ?_ ?_⟩
  · rintro i y G2 G3 s2 ⟨t, tr, h1, h2, h3⟩
    exact ⟨t, tr, h1, s2 _ _ h2, s2 _ _ h3⟩
  · intro i z G2 H2 hx gr Yes No k _
    obtain ⟨t, ht, rfl⟩ := get_ref hx
    obtain ⟨wd, h2, tw, tq, td, etw, ⟨rts, ert, hrt⟩, hq, hdn⟩ := hwt.get ht
    have hkl : kx < wd.1.length := by rw [(as.all.fine wd (List.mem_of_getElem? h2)).1.len]; exact hkn
    obtain ⟨tr, h4, h5⟩ := hrt.at_ (recordOf_lt hkl)
    have h6 : (rts.map V.ref)[kx]? = some (.ref tr) := by rw [List.getElem?_map, h4]; rfl
    refine ⟨rfl, _, rfl, t, _, _, _, rfl, rfl, SqT.of (gr.sub _ _ (gr.up _ _ etw)), atI_nat (j := 0) rfl, _, rfl, tw, _, _, _, rfl, rfl, SqT.of (gr.sub _ _ (gr.up _ _ ert)), atI_nat h6, fit rfl, fun p np => ?_⟩
    have gp := sm_none gr.sub np
    refine k rfl _ _ _ (((Grow.refl gr.sub).loose (sm_upd (o := .tup [.ref tr, .bl true]) np)).keep upd_same np gp) ⟨p, tr, rfl, upd_same, ?_⟩
    rw [List.getD_eq_getElem?_getD, h2]
    exact sm_upd gp _ _ (gr.up _ _ h5)
  intro G2 H2 ys L
  obtain ⟨hyl, hye⟩ := L.each
  have hyl2 : ys.length = (ws.map fun w => recordOf w.1 kx).length := by rw [hyl, List.length_map, List.length_map, hwn]
  obtain ⟨ts, bs, rfl, hl, hks, htup, hR⟩ := pairs_left (R := fun H t r => RecAt H t r) (G := G2) (ws.map fun w => recordOf w.1 kx) ys hyl2 fun j y k h1 h2 => by
    obtain ⟨t, tr, h3, h4, h5⟩ := hye j y h1
    rw [List.getElem?_map] at h2
    cases hw : ws[j]? with
    | none => rw [hw] at h2; cases h2
    | some wd =>
      rw [hw] at h2
      cases h2
      rw [List.getD_eq_getElem?_getD, hw] at h5
      exact ⟨t, tr, h3, h4, h5⟩
  have kk := kind_rec (K := K)
  have sub2 := L.gr.sub
  refine ⟨D, ts, entK keyR bs, rfl, SqL.of L.at_, by unfold entK; rw [List.length_map, hl], fun i t y e1 e2 => ?_, fun y hy => ?_, fun p Ld np nd mem keys => ?_⟩
  · unfold entK at e2
    rw [List.getElem?_map] at e2
    cases hb : bs[i]? with
    | none => rw [hb] at e2; cases e2
    | some b =>
      rw [hb] at e2
      cases e2
      exact sub2 _ _ (htup i t b e1 hb)
  · obtain ⟨b, hb, rfl⟩ := List.mem_map.mp hy
    exact ⟨kk.nk _ _ _ (kk.same _ _ _ _ sub2 (hR b hb)), kk.dep b.1⟩
  obtain ⟨bs', rfl, hbs'⟩ := ent_back kk mem
  have hord := sorted_kept kk (l := (R7289g.Spec.worlds n l).map fun w => recordOf w.state kx) nd keys fun y => by
    rw [hks, List.mem_map, List.mem_map]
    constructor
    · rintro ⟨wd, hw, rfl⟩
      obtain ⟨s, hs, rfl⟩ := (as.all.rel.mem wd).mp hw
      exact ⟨s, hs, rfl⟩
    · rintro ⟨s, hs, rfl⟩
      exact ⟨ab l s, (as.all.rel.mem _).mpr ⟨s, hs, rfl⟩, rfl⟩
  have s3 := sm_upd (o := dN P w p (entK keyR bs')) np
  refine ⟨_, rfl, p, entK keyR bs', rfl, upd_same, fun p2 np2 => ?_⟩
  have s4 := s3.trans (sm_upd (o := .lst ((entK keyR bs').map fun x => V.ref x.2)) np2)
  have sub4 := sub2.trans s4
  have elist : (entK keyR bs').map (fun x => V.ref x.2) = bs'.map fun b => V.ref b.2 := by
    unfold entK
    rw [List.map_map]
    rfl
  refine ⟨(Nat × Nat) × Addr, bs', fun b => b.2, fun b => encR b.1, p2, rfl, SqL.of (by rw [upd_same, elist]), fun b hb => kk.dp _ _ _ (kk.same _ _ _ _ sub4 (hR b (hbs' b hb))), PySem.W.AllAlike.of (enc := fun b : (Nat × Nat) × Addr => encR b.1) fun b b' => kk.al _ _, .inl fun d hd => ?_, fun b _ => kk.d50 b.1, fun p3 np3 => ?_⟩
  · obtain ⟨b, hb, rfl⟩ := List.mem_map.mp hd
    exact kk.tup b.1 trivial
  generalize hso : bs'.mergeSort (PySem.W.dataLe false fun b : (Nat × Nat) × Addr => encR b.1) = so at hord
  have hmem : ∀ b ∈ so, b ∈ bs := fun b hb => hbs' b ((List.mergeSort_perm _ _).mem_iff.mp (by rw [hso]; exact hb))
  have s5 := s4.trans (sm_upd (o := .lst (so.map fun b => V.ref b.2)) np3)
  have hsl : so.length ≤ 300000 := by
    rw [← hso, List.length_mergeSort]
    have h1 := Zw.nodup_len (l := bs'.map (·.1)) (m := ws.map fun w => recordOf w.1 kx) ?_ fun y hy => ?_
    · rw [List.length_map, List.length_map] at h1
      omega
    · rw [ent_fst] at nd
      have nd : (bs'.map fun x => keyR x.1).Pairwise (· ≠ ·) := nd
      rw [List.pairwise_map] at nd
      show (bs'.map (·.1)).Pairwise (· ≠ ·)
      rw [List.pairwise_map]
      exact nd.imp fun {x y} h e => h (by rw [e])
    · obtain ⟨b, hb, rfl⟩ := List.mem_map.mp hy
      rw [← hks]
      exact List.mem_map.mpr ⟨b, hbs' b hb, rfl⟩
  refine ⟨p3, rfl, ⟨_, SqL.of upd_same⟩, fun D5 hD5 => lc_l (xs := so.map fun b => V.ref b.2) (G0 := G2) (fun _ => true) (fun i y G' => ∃ p, y = .ref p ∧ PAt a G' ((fun b : (Nat × Nat) × Addr => recW b.1) (so.getD i ((0, 0), 0))) p) (SqL.of upd_same) hD5 (sub2.trans s5) (by rw [List.length_map]; omega) ?_ ?_ ?_⟩
  · rintro i y G3 G4 s6 ⟨p, h1, h2⟩
    exact ⟨p, h1, PAt.same s6 _ _ h2⟩
  · intro i z G3 H3 hx gr Yes No k _
    obtain ⟨b, hb, rfl⟩ : ∃ b, so[i]? = some b ∧ z = .ref b.2 := by
      rw [List.getElem?_map] at hx
      cases e : so[i]? with
      | none => rw [e] at hx; cases hx
      | some t => rw [e] at hx; cases hx; exact ⟨t, rfl, rfl⟩
    have hrb := gr.up _ _ (hR b (hmem b (List.mem_of_getElem? hb)))
    refine ⟨rfl, _, rfl, _, rfl, b.2, b.1, G3, rfl, gr.sub _ _ hrb, gr.sub, fun G5 H5 q5 x5 n5 r5 => k rfl _ G5 H5 x5 ⟨q5, rfl, ?_⟩⟩
    rw [List.getD_eq_getElem?_getD, hb]
    exact r5
  · intro G3 H3 zs L3
    obtain ⟨G4, ps, x4, eD, al⟩ := L3.row hD5
    refine ⟨_, rfl, D5, rfl, fun H6 p6 n6 s6 e6 => ?_⟩
    obtain ⟨G6, x6, _, z6⟩ := row_end x4 eD al n6 s6 e6
    refine qo H6 p6 ((x1.same.trans L.gr.same).trans (s5.trans x6.same)) ?_
    have e7 : (ixs (fun _ => true) (so.map fun b => V.ref b.2).length).map (fun j => (fun b : (Nat × Nat) × Addr => recW b.1) (so.getD j ((0, 0), 0))) = (R7289g.Spec.possibleRecords n l kx).map recW := by
      rw [List.length_map]
      have := range_all so ((0, 0), 0) (fun b : (Nat × Nat) × Addr => recW b.1)
      rw [this]
      unfold R7289g.Spec.possibleRecords
      rw [← hord, List.map_map]
      rfl
    rw [e7] at z6
    have e8 : Rust.given (.arr ((R7289g.Spec.possibleRecords n l kx).map R7289g.Spec.recordPlain)) = .list ((R7289g.Spec.possibleRecords n l kx).map recW) := by
      rw [given_map]
      rfl
    show PAt a H6 (Rust.given (.arr ((R7289g.Spec.possibleRecords n l kx).map R7289g.Spec.recordPlain))) p6
    rw [e8]
    exact PAt.same x6.sub _ _ z6
end
end Zr
end
section
set_option maxRecDepth 100000
set_option maxHeartbeats 2000000
/-! The desk: the doors that ask of answers, fates, keys. -/
namespace Zr
open PySem PySem.Spec PyProof.Rows L2 L2H
open Zp (oi)
open Zw (Wd ReP Rel Good stage ab)
open R7289g.Spec (Batch batchAt versionOf recordOf Scene lostPlaces allSome)
theorem inV_bools (k : Bool) : ∀ l : List Bool, inV (.bl k) (l.map V.bl) = l.contains k
  | [] => rfl
  | x :: l => by
    have ih := inV_bools k l
    show (eqV (.bl x) (.bl k) || inV (.bl k) (l.map V.bl)) = _
    rw [ih, List.contains_cons]
    congr 1
    cases x <;> cases k <;> rfl
theorem flat_bools (l : List Bool) : (l.map V.bl).all flatV = true := by
  rw [List.all_eq_true]
  intro x hx
  obtain ⟨n, _, rfl⟩ := List.mem_map.mp hx
  rfl
section
variable {P : Program} {w : World} {K : PySem.W.Frag} {mg : Str → Option Value} {base : Heap} {a : Adr}
def rAnswers (x y z : R7289g.Spec.Plain) : R7289g.Spec.Res R7289g.Spec.Plain := R7289g.Spec.answersFn x y z
theorem c_possible_answers (T : Txt K mg a) : CalX P w K mg base 8 "possible_answers" (spQ a rAnswers) := by
  refine calX T.d_possible_answers sc_possible_answers len2 fun f cdv A outer s H vs Q E hr h => ?_
  obtain ⟨dk, _, rfl, g, q0, q1, q2, q3, v0, v1, v2, rfl, hg, hv0, hv1, hv2, qe, qo⟩ := h
  refine ⟨_, (pss_cons (ps_set (i := 2) sc_possible_answers.nd rfl (Or.inl rfl) (pe_mkx (m_Question T) hr (by decide) (L2N.takes_of rfl rfl rfl rfl) rfl (pa_cons (pv 1) pa_nil)))
    (pss_cons (ps_set (i := 3) sc_possible_answers.nd rfl (Or.inr rfl) (pe_cx (c_need_batch T) hr (by decide) (L2N.takes_of rfl rfl rfl rfl) rfl (pa_cons (pe_ix ix_list (pv 1) pe_int (fun _ _ => rfl)) (pa_cons (pe_f T.c_Question.cl T.n_Question_many (pv 2)) pa_nil))))
    (pss_cons (ps_set (i := 4) sc_possible_answers.nd rfl (Or.inr rfl) (pe_lc (own := [("world", 5)]) (g := (gName 5)) (tt := tYes) rfl sc_possible_answers.nd (pi_list (pe_f T.c_Question.cl T.n_Question_worlds (pv 2))) (blkOk_by (N := ["desk", "given", "question", "batch", "found", "world", "own"]) (sc := defScope s_possible_answers) (by decide +kernel)) (fun _ _ _ _ _ => (pg_name (i := 5) sc_possible_answers.nd rfl (Or.inl rfl))) (fun _ _ _ _ _ => pts_nil) (fun _ _ _ _ _ => (pe_c (c_does_hold T) hr (by decide) rfl (pa_cons (pv 3) (pa_cons (pe_ix (show IxR _ (rIxT K) from ix_tup) (pv 5) pe_int (fun _ _ => rfl)) pa_nil))))))
    (pss_one (ps_ret (pe_cw (c_row T) (roomH_of hr) (by decide) (.inl rfl) rfl (pa_cons (pe_lc (own := [("own", 6)]) (g := (gName 6)) rfl sc_possible_answers.nd (pi_tup (pe_tup (pa_cons pe_bl (pa_cons pe_bl pa_nil)))) (blkOk_by (N := ["desk", "given", "question", "batch", "found", "world", "own"]) (sc := defScope s_possible_answers) (by decide +kernel)) (fun _ _ _ _ _ => (pg_name (i := 6) sc_possible_answers.nd rfl (Or.inl rfl))) (fun _ _ _ _ _ => (pts_one (pt_cmpR (show OpR _ (compareOp .In) (rIn K false) from op_in_seq) (pv 6) (pv 4) (by rfl)))) (fun _ _ _ _ _ => (pe_c (c_truth T) hr (by decide) rfl (pa_cons (pv 6) pa_nil)))) pa_nil))))))), ?_⟩
  refine ⟨_, rfl, ?_⟩
  intro x dx hx hdx hne
  refine ask hg hv0 hv1 hx hdx (fun err k m h hi => qe err k m (by unfold rAnswers R7289g.Spec.answersFn; rw [h]; rfl) hi) fun n l ws G1 H1 he as x1 qa => ?_
  obtain ⟨lg, wt, ⟨dxq, eq⟩, hlog, wts, ew, hwt⟩ := qa
  have hwn := hwt.len
  have hfew := as.all.few
  have i2 : (V.ref q0 :: V.ref q1 :: [q2, q3].map V.ref)[2]? = some (.ref q2) := rfl
  have hbi : R7289g.Spec.batchIn n (Rust.taken v2) = batchV n v2 := batchIn_taken as.n1 as.n4 v2 (kin_oct (pat_kin v2 q2 hv2))
  have efn : R7289g.Spec.answersFn (Rust.taken v0) (Rust.taken v1) (Rust.taken v2) = R7289g.Spec.andThen (R7289g.Spec.orElse R7289g.Spec.noBatch (batchV n v2)) fun b => .ok (.arr (([false, true].filter (R7289g.Spec.canAnswer n l b)).map .bool)) := by
    unfold R7289g.Spec.answersFn
    rw [he]
    show R7289g.Spec.andThen (R7289g.Spec.orElse R7289g.Spec.noBatch (R7289g.Spec.batchIn n (Rust.taken v2))) _ = _
    rw [hbi]
  unfold rAnswers at qe qo
  rw [efn] at qe qo
  refine ⟨_, rfl, g, _, _, _, rfl, rfl, SqL.of (x1.same _ _ hg), atI_nat i2, _, rfl, x, dxq, _, _, rfl, x1.sub _ _ eq, rfl, _, _, rfl, q2, v2, n, G1, rfl, rfl, PAt.same x1.same _ _ hv2, x1.sub, fun h5 H2 s2 => qe _ 1 mBatch ?_ e_batch H2 (x1.same.trans s2), fun b h5 G2 H2 bq x2 n2 r2 => ?_⟩
  · rw [h5]
    rfl
  rw [h5] at qo
  have qo := qo _ rfl
  have hb := batchV_ok h5
  refine ⟨_, rfl, x, dxq, _, _, rfl, x2.sub _ _ (x2.up _ _ eq), rfl, wt, rfl, ⟨_, SqL.of (x2.sub _ _ (x2.up _ _ ew))⟩, fun D hD => lc_l (xs := wts.map V.ref) (G0 := G2) (fun _ => true) (fun i y _ => y = .bl (b.holds (ws.getD i w0).1)) (SqL.of (x2.sub _ _ (x2.up _ _ ew))) hD x2.sub (by rw [List.length_map]; omega) (fun i y G G' _ h => h) ?_ ?_⟩
  · intro i z G3 H3 hx gr Yes No k _
    obtain ⟨t, ht, rfl⟩ := get_ref hx
    obtain ⟨wd, h2, tr, tq, td, etw, hrc, hq, hdn⟩ := hwt.get ht
    have up := (x2.up.trans gr.up).trans gr.sub
    refine ⟨rfl, _, rfl, _, rfl, t, _, _, _, rfl, rfl, SqT.of (up _ _ etw), atI_nat (j := 0) rfl, _, _, rfl, bq, tr, b, wd.1, rfl, rfl, (r2.same gr.up).same gr.sub, hrc.same up, by rw [(as.all.fine wd (List.mem_of_getElem? h2)).1.len]; exact hb, fun H4 s4 => k rfl _ G3 H4 ((Grow.refl gr.sub).loose s4) ?_⟩
    rw [List.getD_eq_getElem?_getD, h2]
    rfl
  intro G3 H3 ys L
  have e5 : ys = (ws.map fun w => b.holds w.1).map V.bl := by
    rw [L.vals, List.length_map, hwn, List.map_map]
    exact range_map ws w0 (fun w => V.bl (b.holds w.1))
  have eD := L.at_
  rw [e5] at eD
  have hcon : ∀ c : Bool, (ws.map fun w => b.holds w.1).contains c = R7289g.Spec.canAnswer n l b c := by
    intro c
    unfold R7289g.Spec.canAnswer
    have h1 : (ws.map fun w => b.holds w.1).contains c = ws.any fun w => b.holds w.1 == c := by
      rw [Bool.eq_iff_iff, List.contains_iff_mem, List.mem_map, List.any_eq_true]
      constructor
      · rintro ⟨w, hw, e⟩
        exact ⟨w, hw, by rw [e]; simp⟩
      · rintro ⟨w, hw, e⟩
        exact ⟨w, hw, eq_of_beq e⟩
    rw [h1, rel_any as.all.rel]
    rfl
  refine ⟨fit rfl, fun tf ntf => ⟨tf, rfl, ⟨_, SqT.of upd_same⟩, fun D5 hD5 => lc_t (xs := [.bl false, .bl true]) (G0 := G3) (fun i => (fun c : Bool => R7289g.Spec.canAnswer n l b c) ([false, true].getD i false)) (fun i y G' => ∃ p, y = .ref p ∧ PAt a G' ((fun c : Bool => RWire.Value.bool c) ([false, true].getD i false)) p) (SqT.of upd_same) hD5 (L.gr.sub.trans (sm_upd ntf)) (by show 2 ≤ 16000000; decide) ?_ ?_ ?_⟩⟩
  · rintro i y G4 G5 s6 ⟨p, h1, h2⟩
    exact ⟨p, h1, PAt.same s6 _ _ h2⟩
  · intro i z G4 H4 hx gr Yes No k1 k2
    obtain ⟨c, hc, rfl⟩ : ∃ c, [false, true][i]? = some c ∧ z = .bl c := by
      match i, hx with
      | 0, hx => cases hx; exact ⟨false, rfl, rfl⟩
      | 1, hx => cases hx; exact ⟨true, rfl, rfl⟩
      | _ + 2, hx => simp at hx
    have hg : [false, true].getD i false = c := by rw [List.getD_eq_getElem?_getD, hc]; rfl
    rw [hg] at k1 k2
    refine ⟨rfl, _, rfl, _, rfl, D, _, rfl, .inl (SqL.of (gr.same _ _ (sm_upd ntf _ _ eD))), rfl, flat_bools _, _, rfl, ?_⟩
    have ein : (if false = true then !inV (.bl c) ((ws.map fun w => b.holds w.1).map V.bl) else inV (.bl c) ((ws.map fun w => b.holds w.1).map V.bl)) = R7289g.Spec.canAnswer n l b c := by
      rw [if_neg Bool.false_ne_true, inV_bools, hcon]
    rw [ein]
    cases hh : R7289g.Spec.canAnswer n l b c with
    | true =>
      refine ifT rfl ⟨_, rfl, _, rfl, c, rfl, fun H5 p5 n5 s5 e5 => ?_⟩
      obtain ⟨G5, x5, _, z5⟩ := grow_pc (Grow.refl gr.sub) n5 s5 e5
      exact k1 hh _ G5 H5 x5 ⟨p5, rfl, z5⟩
    | false => exact ifF rfl (k2 hh _ (Same.refl _))
  · intro G4 H4 zs L4
    obtain ⟨G5, ps, x5, eD5, al⟩ := L4.row hD5
    refine ⟨_, rfl, D5, rfl, fun H6 p6 n6 s6 e6 => ?_⟩
    obtain ⟨G6, x6, _, z6⟩ := row_end x5 eD5 al n6 s6 e6
    refine qo H6 p6 ((x1.same.trans (x2.same.trans L.gr.same)).trans ((sm_upd ntf).trans x6.same)) ?_
    have e7 : (ixs (fun i => (fun c : Bool => R7289g.Spec.canAnswer n l b c) ([false, true].getD i false)) [V.bl false, V.bl true].length).map (fun i => (fun c : Bool => RWire.Value.bool c) ([false, true].getD i false)) = ([false, true].filter (R7289g.Spec.canAnswer n l b)).map RWire.Value.bool :=
      ixs_map (fun c : Bool => R7289g.Spec.canAnswer n l b c) false (fun c : Bool => RWire.Value.bool c) [false, true]
    rw [e7] at z6
    rw [given_map]
    exact PAt.same x6.sub _ _ z6
def rFates (x y _z : R7289g.Spec.Plain) : R7289g.Spec.Res R7289g.Spec.Plain := R7289g.Spec.fatesFn x y
theorem c_fates (T : Txt K mg a) : CalX P w K mg base 8 "fates" (spQ a rFates) := by
  refine calX T.d_fates sc_fates len2 fun f cdv A outer s H vs Q E hr h => ?_
  obtain ⟨dk, _, rfl, g, q0, q1, q2, q3, v0, v1, v2, rfl, hg, hv0, hv1, hv2, qe, qo⟩ := h
  refine ⟨_, (pss_cons (ps_set (i := 2) sc_fates.nd rfl (Or.inl rfl) (pe_mkx (m_Question T) hr (by decide) (L2N.takes_of rfl rfl rfl rfl) rfl (pa_cons (pv 1) pa_nil)))
    (pss_cons (ps_set (i := 3) sc_fates.nd rfl (Or.inl rfl) (pe_lst pa_nil))
    (pss_cons (ps_for (passes_of rfl) rfl (pi_list (pe_c (c_lost_places T) hr (by decide) rfl (pa_cons (pe_f T.c_Question.cl T.n_Question_log (pv 2)) pa_nil))) (pg_name (i := 4) sc_fates.nd rfl (Or.inl rfl)) (pss_one (ps_expr (pe_bm PySem.F.plainAttrs_list PySem.F.slot_list_append PySem.F.type_list_append mt_append (pv 3) (pa_cons (pe_cw (c_row T) (roomH_of hr) (by decide) (.inl rfl) rfl (pa_cons (pe_lst (pa_cons (pe_c (c_number T) hr (by decide) rfl (pa_cons (pv 4) pa_nil)) (pa_cons (pe_cw (c_text T) (roomH_of hr) (by decide) (.inl rfl) rfl (pa_cons (pe_c (c_fate_of T) hr (by decide) rfl (pa_cons (pe_f T.c_Question.cl T.n_Question_log (pv 2)) (pa_cons (pe_f T.c_Question.cl T.n_Question_worlds (pv 2)) (pa_cons (pv 4) pa_nil)))) pa_nil)) pa_nil))) pa_nil)) pa_nil)))))
    (pss_one (ps_ret (pe_cw (c_row T) (roomH_of hr) (by decide) (.inl rfl) rfl (pa_cons (pv 3) pa_nil))))))), ?_⟩
  refine ⟨_, rfl, ?_⟩
  intro x dx hx hdx hne
  refine ask hg hv0 hv1 hx hdx (fun err k m h hi => qe err k m (by unfold rFates R7289g.Spec.fatesFn; rw [h]; rfl) hi) fun n l ws G1 H1 he as x1 qa => ?_
  have qo := qo _ (by unfold rFates R7289g.Spec.fatesFn; rw [he]; rfl)
  obtain ⟨lg, wt, ⟨dxq, eq⟩, hlog, hws⟩ := qa
  have h8 := hlog.1
  have hlp8 : (lostPlaces l).length ≤ 8 := by
    have h2 : (lostPlaces l).length ≤ (List.range l.length).length := List.length_filter_le _ _
    rw [List.length_range] at h2
    omega
  refine ⟨fit rfl, fun fo nfo => ?_⟩
  have nfo' := sm_none x1.same nfo
  have gfo := sm_none x1.sub nfo
  have y1 := x1.poke (b := fo) (o := .lst []) nfo' gfo
  have efo : (upd H1 fo (.lst [])) fo = some (.lst []) := upd_same
  generalize upd H1 fo (.lst []) = H2 at y1 efo ⊢
  refine ⟨_, rfl, x, dxq, _, _, rfl, y1.sub _ _ eq, rfl, _, rfl, lg, l, rfl, hlog.same y1.sub, fun H3 lp nlp s3 elp => ⟨lp, rfl, ⟨_, SqL.of elp⟩, ?_⟩⟩
  have y3 := y1.loose s3
  have nlf : lp ≠ fo := fun z => by rw [z, efo] at nlp; cases nlp
  let fv : Nat → RWire.Value := fun i => .list [.int (i : Int), .text (oS (R7289g.Spec.fateText (R7289g.Spec.fate n l i)))]
  refine for_list (xs := vN (lostPlaces l)) (fun k σ HH => ∃ (us : List Addr) (v4 : Option V) (G2 : Hp), σ = [some dk, some (.ref g), some (.ref x), some (.ref fo), v4] ∧ Grow H H G2 HH ∧ Same G1 G2 ∧ G2 fo = none ∧ HH lp = some (.lst (vN (lostPlaces l))) ∧ HH fo = some (.lst (us.map V.ref)) ∧ PAll a G2 (((lostPlaces l).take k).map fv) us)
    ⟨[], none, G1, rfl, y3, Same.refl _, gfo, elp, s3 _ _ efo, rfl⟩ ?_ ?_ ?_
  · rintro k σ HH _ ⟨us, v4, G2, rfl, x2, up, g2, e0, e1, e2⟩
    exact SqL.of e0
  · rintro k z σ HH hx ⟨us, v4, G2, rfl, x2, up, g2, e0, e1, e2⟩
    obtain ⟨i, hi, rfl⟩ := vN_get hx
    have him := List.mem_of_getElem? hi
    have htake : (lostPlaces l).take (k + 1) = (lostPlaces l).take k ++ [i] := by rw [List.take_succ, hi]; rfl
    have hul := pall_len e2
    have hkl : us.length ≤ 8 := by
      rw [← hul, List.length_map, List.length_take]
      omega
    refine ⟨_, rfl, .inl ⟨rfl, _, SqL.of e1⟩, _, rfl, _, rfl, _, rfl, fun H4 p4 n4 s4 e4 => ?_⟩
    obtain ⟨G4, x4, u4, z4⟩ := grow_pc (Grow.refl x2.sub) n4 s4 e4
    have up4 := up.trans u4
    refine ⟨_, rfl, x, dxq, _, _, rfl, x4.sub _ _ (up4 _ _ eq), rfl, _, rfl, x, dxq, _, _, rfl, x4.sub _ _ (up4 _ _ eq), rfl, _, rfl, _, _, _, rfl, lg, wt, i, n, l, ws, rfl, rfl, rfl, (hlog.same up4).same x4.sub, (hws.same up4).same x4.sub, him, as.lok, as.all, fun H5 s5 => ?_⟩
    have x5 := x4.loose s5
    obtain ⟨hf1, hf2⟩ := fate_s (R7289g.Spec.fate n l i)
    refine ⟨_, rfl, _, _, G4, rfl, hf2, hf1, x5.sub, fun G6 H6 p6 x6 n6 a6 => ⟨fit rfl, fun lr nl => ⟨_, rfl, lr, rfl, fun H8 p8 n8 s8 e8 => ?_⟩⟩⟩
    have x56 := x5.trans x6
    obtain ⟨G8, x8, u8, z8⟩ := grow_row (vs := [.int (i : Int), .text (oS (R7289g.Spec.fateText (R7289g.Spec.fate n l i)))]) (ps := [p4, p6]) x56 ⟨p4, [p6], rfl, Ins.same x6.up z4, p6, [], rfl, a6, rfl⟩ nl upd_same (sm_upd nl) n8 s8 e8
    have x28 := x2.trans x8
    have g8 : G8 fo = none := x8.new fo g2 (by rw [e1]; simp)
    refine ⟨fo, _, _, rfl, rfl, x8.same _ _ e1, by rw [List.length_map, sizeLine_eq]; omega, us ++ [p8], _, G8, rfl, x28.poke nfo' g8, up.trans x8.up, g8, by rw [upd_ne nlf]; exact x8.same _ _ e0, by rw [upd_same, List.map_append]; rfl, ?_⟩
    rw [htake, List.map_append]
    refine pall_of _ _ (by simp [← hul]) fun j v p h1 h2 => ?_
    by_cases hj : j < us.length
    · rw [List.getElem?_append_left (by omega)] at h1
      rw [List.getElem?_append_left hj] at h2
      exact PAt.same x8.up _ _ (pall_get e2 h1 h2)
    · rw [List.getElem?_append_right (by omega)] at h1
      rw [List.getElem?_append_right (by omega)] at h2
      have e0' : j - us.length = 0 := by
        cases e0' : j - us.length with
        | zero => rfl
        | succ k => rw [e0'] at h2; simp at h2
      rw [hul, e0'] at h1
      rw [e0'] at h2
      cases h1
      cases h2
      exact z8
  · rintro σ HH ⟨us, v4, G2, rfl, x2, up, g2, e0, e1, e2⟩
    rw [vN_len, List.take_length] at e2
    have x3 := x2.keep e1 nfo' g2
    refine ⟨_, rfl, _, rfl, fo, rfl, fun H6 p6 n6 s6 e6 => ?_⟩
    obtain ⟨G6, x6, _, z6⟩ := row_end x3 upd_same (PAll.same (sm_upd g2) _ _ e2) n6 s6 e6
    refine qo H6 p6 x6.same ?_
    have e8 : Rust.given (.arr ((lostPlaces l).map fun i => .arr [R7289g.Spec.nat i, R7289g.Spec.text (R7289g.Spec.fateText (R7289g.Spec.fate n l i))])) = .list ((lostPlaces l).map fv) := by
      rw [given_map]
      rfl
    show PAt a H6 (Rust.given (.arr ((lostPlaces l).map fun i => .arr [R7289g.Spec.nat i, R7289g.Spec.text (R7289g.Spec.fateText (R7289g.Spec.fate n l i))]))) p6
    rw [e8]
    exact PAt.same x6.sub _ _ z6
def rSettle (x y _z : R7289g.Spec.Plain) : R7289g.Spec.Res R7289g.Spec.Plain := R7289g.Spec.settlingFn x y
theorem c_settle (T : Txt K mg a) : CalX P w K mg base 8 "settle" (spQ a rSettle) := by
  refine calX T.d_settle sc_settle len2 fun f cdv A outer s H vs Q E hr h => ?_
  obtain ⟨dk, _, rfl, g, q0, q1, q2, q3, v0, v1, v2, rfl, hg, hv0, hv1, hv2, qe, qo⟩ := h
  refine ⟨_, (pss_cons (ps_set (i := 2) sc_settle.nd rfl (Or.inl rfl) (pe_mkx (m_Question T) hr (by decide) (L2N.takes_of rfl rfl rfl rfl) rfl (pa_cons (pv 1) pa_nil)))
    (pss_cons (ps_set (i := 3) sc_settle.nd rfl (Or.inl rfl) (pe_c (c_settling_keys T) hr (by decide) rfl (pa_cons (pe_f T.c_Question.cl T.n_Question_many (pv 2)) (pa_cons (pe_f T.c_Question.cl T.n_Question_log (pv 2)) (pa_cons (pe_f T.c_Question.cl T.n_Question_worlds (pv 2)) pa_nil)))))
    (pss_one (ps_ret (pe_ifExp (pt_cmpR op_isN (pv 3) pe_non (nomark _)) (pe_mkw (m_Piece T) (roomH_of hr) (by decide) (.inl rfl) rfl (pa_cons (pe_gc rfl T.k_NULL) (pa_cons pe_int pa_nil))) (pe_cw (c_row T) (roomH_of hr) (by decide) (.inl rfl) rfl (pa_cons (pe_lc (own := [("key", 4)]) (g := (gName 4)) (tt := tYes) rfl sc_settle.nd (pi_list (pv 3)) (blkOk_by (N := ["desk", "given", "question", "found", "key"]) (sc := defScope s_settle) (by decide +kernel)) (fun _ _ _ _ _ => (pg_name (i := 4) sc_settle.nd rfl (Or.inl rfl))) (fun _ _ _ _ _ => pts_nil) (fun _ _ _ _ _ => (pe_c (c_number T) hr (by decide) rfl (pa_cons (pv 4) pa_nil)))) pa_nil))))))), ?_⟩
  refine ⟨_, rfl, ?_⟩
  intro x dx hx hdx hne
  refine ask hg hv0 hv1 hx hdx (fun err k m h hi => qe err k m (by unfold rSettle R7289g.Spec.settlingFn; rw [h]; rfl) hi) fun n l ws G1 H1 he as x1 qa => ?_
  have efn : R7289g.Spec.settlingFn (Rust.taken v0) (Rust.taken v1) = .ok (match R7289g.Spec.settlingKeys n l with
      | some ks => .arr (ks.map R7289g.Spec.nat)
      | none => .null) := by
    unfold R7289g.Spec.settlingFn
    rw [he]
    rfl
  unfold rSettle at qo
  rw [efn] at qo
  have qo := qo _ rfl
  obtain ⟨lg, wt, ⟨dxq, eq⟩, hlog, hws⟩ := qa
  have eq1 := x1.sub _ _ eq
  refine ⟨_, rfl, x, dxq, _, _, rfl, eq1, rfl, _, rfl, x, dxq, _, _, rfl, eq1, rfl, _, rfl, x, dxq, _, _, rfl, eq1, rfl, _, _, _, rfl, lg, wt, n, l, ws, rfl, rfl, rfl, hlog.same x1.sub, hws.same x1.sub, as.lok, as.n1, as.n4, as.all, fun h H2 s2 => ?_, fun ks h hk4 H2 p n2 s2 ep => ?_⟩
  · rw [h] at qo
    refine ⟨_, rfl, rfl, _, rfl, ifT rfl ?_⟩
    exact made rfl fun H3 p hp s3 h3 => qo H3 p ((x1.same.trans s2).trans s3) h3
  · rw [h] at qo
    refine ⟨_, rfl, rfl, _, rfl, ifF rfl ?_⟩
    refine ⟨_, rfl, p, rfl, ⟨_, SqL.of ep⟩, fun D hD => lc_l (xs := vN ks) (G0 := H2) (fun _ => true) (fun i y G' => ∃ p, y = .ref p ∧ PAt a G' ((fun k : Nat => RWire.Value.int (k : Int)) (ks.getD i 0)) p) (SqL.of ep) hD (Same.refl _) (by rw [vN_len]; omega) ?_ ?_ ?_⟩
    · rintro i y G4 G5 s6 ⟨p, h1, h2⟩
      exact ⟨p, h1, PAt.same s6 _ _ h2⟩
    · intro i z G4 H4 hx gr Yes No k _
      obtain ⟨m, hm, rfl⟩ := vN_get hx
      refine ⟨rfl, _, rfl, _, rfl, _, rfl, fun H5 p5 n5 s5 e5 => ?_⟩
      obtain ⟨G5, x5, _, z5⟩ := grow_pc (Grow.refl gr.sub) n5 s5 e5
      refine k rfl _ G5 H5 x5 ⟨p5, rfl, ?_⟩
      rw [List.getD_eq_getElem?_getD, hm]
      exact z5
    · intro G4 H4 zs L4
      obtain ⟨G5, ps, x5, eD5, al⟩ := L4.row hD
      refine ⟨_, rfl, D, rfl, fun H6 p6 n6 s6 e6 => ?_⟩
      obtain ⟨G6, x6, _, z6⟩ := row_end x5 eD5 al n6 s6 e6
      refine qo H6 p6 ((x1.same.trans s2).trans x6.same) ?_
      have e7 : (ixs (fun _ => true) (vN ks).length).map (fun i => (fun k : Nat => RWire.Value.int (k : Int)) (ks.getD i 0)) = ks.map fun (k : Nat) => RWire.Value.int (k : Int) := by
        rw [vN_len]
        exact range_all ks 0 (fun k : Nat => RWire.Value.int (k : Int))
      rw [e7] at z6
      show PAt a H6 (Rust.given (.arr (ks.map R7289g.Spec.nat))) p6
      rw [given_map]
      exact PAt.same x6.sub _ _ z6
end
end Zr
end
section
set_option maxRecDepth 100000
set_option maxHeartbeats 2000000
/-! The desk: the doors of commits. -/
namespace Zr
open PySem PySem.Spec PyProof.Rows L2 L2H
open Zp (oi)
open R7289g.Spec (Commit Reply replyOf)
section
variable {a : Adr} {G H G' H' : Hp}
def SlotAt (a : Adr) (G H : Hp) (x : V) (o : Option Commit) : Prop := (o = none ∧ x = .non) ∨ ∃ cm c, o = some cm ∧ x = .ref c ∧ G c = none ∧ CmAt a G H c cm
/-- the desk and its slots -/
structure DkXs (a : Adr) (G H : Hp) (d cl : Addr) (cs : List (Option Commit)) (xs : List V) : Prop where
  de : Ins H d a.desk (fDesk (.ref cl))
  at_ : H cl = some (.lst xs)
  g : G cl = none
  len : xs.length = cs.length
  slot : ∀ (i : Nat) x o, xs[i]? = some x → cs[i]? = some o → SlotAt a G H x o
  apart : ∀ (i j : Nat) c, xs[i]? = some (.ref c) → xs[j]? = some (.ref c) → i = j
def DkAt (a : Adr) (G H : Hp) (d cl : Addr) (cs : List (Option Commit)) : Prop := ∃ xs, DkXs a G H d cl cs xs
/-- what stays grows; of the rest only the slots and commits change -/
structure GrowD (a : Adr) (cl : Addr) (G H G' H' : Hp) : Prop where
  up : Same G G'
  sub : Same G' H'
  but : ∀ b o, b ≠ cl → (∀ dx fs, o ≠ .ins a.commit dx fs) → H b = some o → H' b = some o
  live : ∀ b, H b ≠ none → H' b ≠ none
  new : ∀ b, G b = none → H b ≠ none → G' b = none
theorem same_live (s : Same H H') {b : Addr} (h : H b ≠ none) : H' b ≠ none := by
  cases e : H b with
  | none => exact absurd e h
  | some o => rw [s b o e]; simp
theorem GrowD.of {cl : Addr} (x : Grow G H G' H') : GrowD a cl G H G' H' := ⟨x.up, x.sub, fun b o _ _ e => x.same b o e, fun b h => same_live x.same h, x.new⟩
theorem GrowD.trans {cl : Addr} {G2 H2 : Hp} (x : GrowD a cl G H G' H') (y : GrowD a cl G' H' G2 H2) : GrowD a cl G H G2 H2 :=
  ⟨x.up.trans y.up, y.sub, fun b o n1 n2 e => y.but b o n1 n2 (x.but b o n1 n2 e), fun b h => y.live b (x.live b h), fun b h1 h2 => y.new b (x.new b h1 h2) (x.live b h2)⟩
theorem GrowD.loose {cl : Addr} {H2 : Hp} (x : GrowD a cl G H G' H') (s : Same H' H2) : GrowD a cl G H G' H2 := ⟨x.up, x.sub.trans s, fun b o n1 n2 e => s b o (x.but b o n1 n2 e), fun b h => same_live s (x.live b h), x.new⟩
theorem GrowD.ofB {cl c : Addr} {cm : Commit} (hc : CmAt a G H c cm) (hl : H' c ≠ none) (x : GrowB c G H G' H') : GrowD a cl G H G' H' :=
  ⟨x.up, x.sub, fun b o _ n2 e => x.but b o (fun z => by
      obtain ⟨m, t, l, o', ⟨dx, e1⟩, _⟩ := hc
      rw [z, e1] at e
      cases e
      exact n2 _ _ rfl) e, fun b h => x.but.some hl h, x.new⟩
theorem GrowD.slots {cl : Addr} {o : HO} (s : Same G H) (g : G cl = none) : GrowD a cl G H G (upd H cl o) :=
  ⟨Same.refl _, fun b u e => by rw [upd_ne (ne_of_none e g)]; exact s b u e, fun b u n _ e => by rw [upd_ne n]; exact e, fun b h => by
    by_cases q : b = cl
    · rw [q, upd_same]; simp
    · rw [upd_ne q]; exact h, fun _ h _ => h⟩
theorem SlotAt.keep {x : V} {o : Option Commit} (sG : Same G G') (hn : ∀ c, x = .ref c → G c = none → G' c = none) (hk : ∀ c, x = .ref c → ∀ u, H c = some u → H' c = some u) (h : SlotAt a G H x o) : SlotAt a G' H' x o := by
  rcases h with h | ⟨cm, c, h1, h2, h3, h4⟩
  · exact .inl h
  · exact .inr ⟨cm, c, h1, h2, hn c h2 h3, h4.keep sG (hk c h2)⟩
theorem cm_ins {c : Addr} {cm : Commit} (h : CmAt a G H c cm) : ∃ dx fs, H c = some (.ins a.commit dx fs) := by
  obtain ⟨m, t, l, o, ⟨dx, h1⟩, _⟩ := h
  exact ⟨dx, _, h1⟩
theorem DkXs.ne {d cl : Addr} {cs : List (Option Commit)} {xs : List V} (D : DkXs a G H d cl cs xs) {i : Nat} {c : Addr} (h : xs[i]? = some (.ref c)) : c ≠ cl ∧ c ≠ d ∧ H c ≠ none := by
  have hi : i < cs.length := by rw [← D.len]; exact (List.getElem?_eq_some_iff.mp h).1
  have hs := D.slot i _ _ h (List.getElem?_eq_getElem hi)
  rcases hs with ⟨_, h2⟩ | ⟨cm, c', _, h2, _, h4⟩
  · cases h2
  · cases h2
    obtain ⟨dx, fs, e⟩ := cm_ins h4
    refine ⟨ne_of e D.at_ (by intro z; cases z), fun z => ?_, by rw [e]; simp⟩
    obtain ⟨dx2, e2⟩ := D.de
    obtain ⟨m, t, l, o, ⟨dx3, e3⟩, _⟩ := h4
    rw [z, e2] at e3
    injection e3 with e3
    injection e3 with e4 e5 e6
    cases e6
/-- the desk, other things growing -/
theorem DkXs.grow {d cl : Addr} {cs : List (Option Commit)} {xs : List V} (D : DkXs a G H d cl cs xs) (x : Grow G H G' H') : DkXs a G' H' d cl cs xs :=
  ⟨D.de.same x.same, x.same _ _ D.at_, x.new _ D.g (by rw [D.at_]; simp), D.len, fun i y o h1 h2 => (D.slot i y o h1 h2).keep x.up (fun c e g => x.new c g (by subst e; exact (D.ne h1).2.2)) fun c e u h => x.same _ _ h, D.apart⟩
/-- the desk, a commit put into a slot -/
theorem DkXs.put {d cl c : Addr} {cs : List (Option Commit)} {xs : List V} {p : Nat} {cm : Commit} (D : DkXs a G H d cl cs xs) (x : Grow G H G' H') (nc : H c = none) (gc : G' c = none) (hc : CmAt a G' H' c cm) :
    DkXs a G' (upd H' cl (.lst (xs.set p (.ref c)))) d cl (cs.set p (some cm)) (xs.set p (.ref c)) := by
  have D' := D.grow x
  have ncl : c ≠ cl := fun z => by rw [z, D.at_] at nc; cases nc
  obtain ⟨dd, ed⟩ := D'.de
  have ndl : d ≠ cl := ne_of ed D'.at_ (by intro z; cases z)
  refine ⟨⟨dd, by rw [upd_ne ndl]; exact ed⟩, upd_same, D'.g, by simp [D.len], fun i y o h1 h2 => ?_, fun i j b h1 h2 => ?_⟩
  · rw [List.getElem?_set] at h1 h2
    by_cases hpi : p = i
    · rw [if_pos hpi] at h1 h2
      subst hpi
      split at h1
      · cases h1
        split at h2
        · cases h2
          exact .inr ⟨cm, c, rfl, rfl, gc, hc.keep (Same.refl _) fun u h => by rw [upd_ne ncl]; exact h⟩
        · cases h2
      · cases h1
    · rw [if_neg hpi] at h1 h2
      exact (D'.slot i y o h1 h2).keep (Same.refl _) (fun _ _ h => h) fun b e u h => by subst e; rw [upd_ne (D'.ne h1).1]; exact h
  · rw [List.getElem?_set] at h1 h2
    by_cases hpi : p = i
    · by_cases hpj : p = j
      · omega
      · rw [if_pos hpi] at h1
        rw [if_neg hpj] at h2
        split at h1
        · cases h1
          exact absurd nc (D.ne h2).2.2
        · cases h1
    · rw [if_neg hpi] at h1
      by_cases hpj : p = j
      · rw [if_pos hpj] at h2
        split at h2
        · cases h2
          exact absurd nc (D.ne h1).2.2
        · cases h2
      · rw [if_neg hpj] at h2
        exact D.apart i j b h1 h2
/-- the desk, the commit of a slot changed -/
theorem DkXs.change {d cl c : Addr} {cs : List (Option Commit)} {xs : List V} {p : Nat} {cm : Commit} (D : DkXs a G H d cl cs xs) (hp : xs[p]? = some (.ref c)) (gc : G c = none) (x : GrowB c G H G' H') (hc : CmAt a G' H' c cm) :
    DkXs a G' H' d cl (cs.set p (some cm)) xs := by
  obtain ⟨n1, n2, n3⟩ := D.ne hp
  obtain ⟨dd, ed⟩ := D.de
  refine ⟨⟨dd, x.but _ _ (fun z => n2 z.symm) ed⟩, x.but _ _ (fun z => n1 z.symm) D.at_, x.new _ D.g (by rw [D.at_]; simp), by simp [D.len], fun i y o h1 h2 => ?_, D.apart⟩
  rw [List.getElem?_set] at h2
  by_cases hpi : p = i
  · rw [if_pos hpi] at h2
    subst hpi
    rw [hp] at h1
    cases h1
    split at h2
    · cases h2
      exact .inr ⟨cm, c, rfl, rfl, x.new c gc n3, hc⟩
    · cases h2
  · rw [if_neg hpi] at h2
    refine (D.slot i y o h1 h2).keep x.up (fun b e g => x.new b g (by subst e; exact (D.ne h1).2.2)) fun b e u h => x.but b u (fun z => ?_) h
    subst e
    subst z
    exact hpi (D.apart p i b hp h1)
theorem DkXs.at {d cl : Addr} {cs : List (Option Commit)} {xs : List V} {p : Nat} {cm : Commit} (D : DkXs a G H d cl cs xs) (h : cs[p]? = some (some cm)) : ∃ c, xs[p]? = some (.ref c) ∧ G c = none ∧ CmAt a G H c cm := by
  have hp : p < xs.length := by rw [D.len]; exact (List.getElem?_eq_some_iff.mp h).1
  have hx := List.getElem?_eq_getElem hp
  rcases D.slot p _ _ hx h with ⟨h1, _⟩ | ⟨cm', c, h1, h2, h3, h4⟩
  · cases h1
  · cases h1
    exact ⟨c, by rw [hx, h2], h3, h4⟩
end
section
variable {P : Program} {w : World} {K : PySem.W.Frag} {mg : Str → Option Value} {base : Heap} {a : Adr}
/-- the arguments of a request: four pieces that stay -/
def GvAt (a : Adr) (G : Hp) (g : Addr) (v0 v1 v2 v3 : RWire.Value) : Prop := ∃ q0 q1 q2 q3, G g = some (.lst [.ref q0, .ref q1, .ref q2, .ref q3]) ∧ PAt a G v0 q0 ∧ PAt a G v1 q1 ∧ PAt a G v2 q2 ∧ PAt a G v3 q3
def spCommitOf (a : Adr) : Sp := sp2 fun x y H Q E => ∃ (d g cl : Addr) (v1 v2 v3 : RWire.Value) (p : Nat) (cs : List (Option Commit)) (xs : List V) (z : V) (G : Hp), x = .ref d ∧ y = .ref g ∧ GvAt a G g (.int (p : Int)) v1 v2 v3 ∧ Same G H ∧ DkXs a G H d cl cs xs ∧ xs[p]? = some z ∧ Q z H
theorem c_commit_of (T : Txt K mg a) : Cal P w K mg base 1 "commit_of" (spCommitOf a) := by
  refine cal T.d_commit_of sc_commit_of len2 fun f cdv A outer s H vs Q E hr h => ?_
  obtain ⟨_, _, rfl, d, g, cl, v1, v2, v3, p, cs, xs, z, G, rfl, rfl, ⟨q0, q1, q2, q3, hg, ⟨dx0, e0⟩, _, _, _⟩, sG, D, hz, q⟩ := h
  refine ⟨_, (pss_one (ps_ret (pe_ix ix_list (pe_f T.c_Desk.cl T.n_Desk_commits (pv 0)) (pe_f T.c_Piece.cl T.n_Piece_content (pe_ix ix_list (pv 1) pe_int (fun _ _ => rfl))) (fun _ _ => rfl)))), ?_⟩
  obtain ⟨dd, ed⟩ := D.de
  exact ⟨_, rfl, d, dd, _, _, rfl, ed, rfl, _, rfl, g, _, _, _, rfl, rfl, SqL.of (sG _ _ hg), atI_nat (j := 0) rfl, q0, dx0, _, _, rfl, sG _ _ e0, rfl, cl, _, _, _, rfl, rfl, SqL.of D.at_, atI_nat hz, q⟩
def spStart (a : Adr) (cmf : R7289g.Spec.Plain → R7289g.Spec.Plain → R7289g.Spec.Plain → Commit) (ok3 : RWire.Value → Prop) : Sp := sp2 fun x y H Q E => ∃ (d g cl : Addr) (v1 v2 v3 : RWire.Value) (p : Nat) (cs : List (Option Commit)) (G : Hp), x = .ref d ∧ y = .ref g ∧ GvAt a G g (.int (p : Int)) v1 v2 v3 ∧ Same G H ∧ DkAt a G H d cl cs ∧ p < cs.length ∧ ok3 v3 ∧
  ∀ G' H' q, GrowD a cl G H G' H' → DkAt a G' H' d cl (cs.set p (some (cmf (Rust.taken v1) (Rust.taken v2) (Rust.taken v3)))) → PAt a H' .nothing q → Q (.ref q) H'
def cmStart (x y _z : R7289g.Spec.Plain) : Commit := R7289g.Spec.begun x y
theorem c_start (T : Txt K mg a) : Cal P w K mg base 7 "start" (spStart a cmStart fun _ => True) := by
  refine cal T.d_start sc_start len2 fun f cdv A outer s H vs Q E hr h => ?_
  obtain ⟨_, _, rfl, d, g, cl, v1, v2, v3, p, cs, G, rfl, rfl, ⟨q0, q1, q2, q3, hg, ⟨dx0, e0⟩, h1, h2, h3⟩, sG, ⟨xs, D⟩, hp, _, q⟩ := h
  refine ⟨_, (pss_cons (ps_asg (pe_c (c_begun T) hr (by decide) rfl (pa_cons (pe_ix ix_list (pv 1) pe_int (fun _ _ => rfl)) (pa_cons (pe_ix ix_list (pv 1) pe_int (fun _ _ => rfl)) pa_nil))) (pg_sub (pe_f T.c_Desk.cl T.n_Desk_commits (pv 0)) (pe_f T.c_Piece.cl T.n_Piece_content (pe_ix ix_list (pv 1) pe_int (fun _ _ => rfl))) set_list))
    (pss_one (ps_ret (pe_c0 (c_nothing T) hr (by decide) rfl)))), ?_⟩
  obtain ⟨dd, ed⟩ := D.de
  have hpx : p < xs.length := by rw [D.len]; exact hp
  refine ⟨_, rfl, g, _, _, _, rfl, rfl, SqL.of (sG _ _ hg), atI_nat (j := 1) rfl, _, rfl, g, _, _, _, rfl, rfl, SqL.of (sG _ _ hg), atI_nat (j := 2) rfl, _, _, rfl, q1, q2, G, v1, v2, rfl, rfl, PAt.same sG _ _ h1, PAt.same sG _ _ h2, sG, fun G1 H1 c x1 g1 n1 hc => ?_⟩
  have D1 := D.grow x1
  refine ⟨_, rfl, d, dd, _, _, rfl, x1.same _ _ ed, rfl, _, rfl, g, _, _, _, rfl, rfl, SqL.of (x1.same _ _ (sG _ _ hg)), atI_nat (j := 0) rfl, q0, dx0, _, _, rfl, x1.same _ _ (sG _ _ e0), rfl, cl, xs, _, p, rfl, rfl, D1.at_, ixN_lt hpx, rfl, fun H3 p3 n3 s3 e3 => ?_⟩
  have D2 := D.put (p := p) x1 n1 g1 hc
  have y2 := (GrowD.of (a := a) (cl := cl) x1).trans (GrowD.slots (o := .lst (xs.set p (.ref c))) x1.sub D1.g)
  exact q G1 H3 p3 (y2.loose s3) ⟨_, D2.grow ((Grow.refl y2.sub).loose s3)⟩ e3
def cmReplies (x y z : R7289g.Spec.Plain) : Commit := (R7289g.Spec.begun x y).run (R7289g.Spec.repliesOf z)
def okReplies (v : RWire.Value) : Prop := ∃ vs, v = .list vs ∧ vs.length ≤ 1000000
theorem c_start_by_replies (T : Txt K mg a) : Cal P w K mg base 7 "start_by_replies" (spStart a cmReplies okReplies) := by
  refine cal T.d_start_by_replies sc_start_by_replies len2 fun f cdv A outer s H vs Q E hr h => ?_
  obtain ⟨_, _, rfl, d, g, cl, v1, v2, v3, p, cs, G, rfl, rfl, ⟨q0, q1, q2, q3, hg, ⟨dx0, e0⟩, h1, h2, h3⟩, sG, ⟨xs, D⟩, hp, ⟨ws, rfl, hz⟩, q⟩ := h
  refine ⟨_, (pss_cons (ps_set (i := 2) sc_start_by_replies.nd rfl (Or.inl rfl) (pe_c (c_begun T) hr (by decide) rfl (pa_cons (pe_ix ix_list (pv 1) pe_int (fun _ _ => rfl)) (pa_cons (pe_ix ix_list (pv 1) pe_int (fun _ _ => rfl)) pa_nil))))
    (pss_cons (ps_expr (pe_c (c_by_replies T) hr (by decide) rfl (pa_cons (pv 2) (pa_cons (pe_callTy call_list_of rfl T.b_list (by decide +kernel) (pa_cons (pe_f T.c_Piece.cl T.n_Piece_content (pe_ix ix_list (pv 1) pe_int (fun _ _ => rfl))) pa_nil)) pa_nil))))
    (pss_cons (ps_asg (pv 2) (pg_sub (pe_f T.c_Desk.cl T.n_Desk_commits (pv 0)) (pe_f T.c_Piece.cl T.n_Piece_content (pe_ix ix_list (pv 1) pe_int (fun _ _ => rfl))) set_list))
    (pss_one (ps_ret (pe_c0 (c_nothing T) hr (by decide) rfl)))))), ?_⟩
  obtain ⟨dd, ed⟩ := D.de
  obtain ⟨l3, ps3, ⟨dx3, e3⟩, el3, h3⟩ := h3
  have hpx : p < xs.length := by rw [D.len]; exact hp
  refine ⟨_, rfl, g, _, _, _, rfl, rfl, SqL.of (sG _ _ hg), atI_nat (j := 1) rfl, _, rfl, g, _, _, _, rfl, rfl, SqL.of (sG _ _ hg), atI_nat (j := 2) rfl, _, _, rfl, q1, q2, G, v1, v2, rfl, rfl, PAt.same sG _ _ h1, PAt.same sG _ _ h2, sG, fun G1 H1 c x1 g1 n1 hc => ?_⟩
  refine ⟨_, rfl, _, rfl, g, _, _, _, rfl, rfl, SqL.of (x1.same _ _ (sG _ _ hg)), atI_nat (j := 3) rfl, q3, dx3, _, _, rfl, x1.same _ _ (sG _ _ e3), rfl, l3, _, rfl, .inl (SqL.of (x1.same _ _ (sG _ _ el3))), fun l4 n4 => ?_⟩
  have s4 := sm_upd (o := .lst (ps3.map V.ref)) n4
  have x4 := x1.loose s4
  refine ⟨_, _, rfl, c, l4, G1, R7289g.Spec.begun (Rust.taken v1) (Rust.taken v2), ws, ps3, rfl, rfl, hc.keep (Same.refl _) (fun o e => s4 _ _ e), upd_same, PAll.same x1.up _ _ h3, hz, x4.sub, g1, fun G5 H5 x5 hc5 => ?_⟩
  have nc4 : (upd H1 l4 (.lst (ps3.map V.ref))) c ≠ none := same_live s4 hc.some
  have x15 : Grow G H G5 H5 := by
    refine ⟨x4.up.trans x5.up, x5.sub, fun b o e => x5.but b o (ne_of_none e n1) (x4.same b o e), fun b h1 h2 => x5.new b (x4.new b h1 h2) (same_live x4.same h2)⟩
  have g5 : G5 c = none := x5.new c g1 nc4
  have D1 := D.grow x15
  have e5 := x15.same
  refine ⟨_, rfl, _, rfl, d, dd, _, _, rfl, e5 _ _ ed, rfl, _, rfl, g, _, _, _, rfl, rfl, SqL.of (e5 _ _ (sG _ _ hg)), atI_nat (j := 0) rfl, q0, dx0, _, _, rfl, e5 _ _ (sG _ _ e0), rfl, cl, xs, _, p, rfl, rfl, D1.at_, ixN_lt hpx, rfl, fun H3 p3 n3 s3 e3' => ?_⟩
  have D2 := D.put (p := p) x15 n1 g5 hc5
  have y2 := (GrowD.of (a := a) (cl := cl) x15).trans (GrowD.slots (o := .lst (xs.set p (.ref c))) x15.sub D1.g)
  exact q G5 H3 p3 (y2.loose s3) ⟨_, D2.grow ((Grow.refl y2.sub).loose s3)⟩ e3'
def cmValue (x y _z : R7289g.Spec.Plain) : Commit := R7289g.Spec.begunWithValue x y
theorem c_start_with_value (T : Txt K mg a) : Cal P w K mg base 7 "start_with_value" (spStart a cmValue fun _ => True) := by
  refine cal T.d_start_with_value sc_start_with_value len2 fun f cdv A outer s H vs Q E hr h => ?_
  obtain ⟨_, _, rfl, d, g, cl, v1, v2, v3, p, cs, G, rfl, rfl, ⟨q0, q1, q2, q3, hg, ⟨dx0, e0⟩, h1, h2, h3⟩, sG, ⟨xs, D⟩, hp, _, q⟩ := h
  refine ⟨_, (pss_cons (ps_set (i := 2) sc_start_with_value.nd rfl (Or.inl rfl) (pe_c (c_begun T) hr (by decide) rfl (pa_cons (pe_ix ix_list (pv 1) pe_int (fun _ _ => rfl)) (pa_cons (pe_ix ix_list (pv 1) pe_int (fun _ _ => rfl)) pa_nil))))
    (pss_cons (ps_if (pt_val (pe_c (c_does_wait T) hr (by decide) rfl (pa_cons (pv 2) pa_nil))) (pss_one (ps_expr (pe_cw (c_reject T) (roomH_of hr) (by decide) (.inl rfl) rfl (pa_cons (pv 2) (pa_cons pe_int (pa_cons pe_str pa_nil)))))) pss_nil)
    (pss_cons (ps_asg (pv 2) (pg_sub (pe_f T.c_Desk.cl T.n_Desk_commits (pv 0)) (pe_f T.c_Piece.cl T.n_Piece_content (pe_ix ix_list (pv 1) pe_int (fun _ _ => rfl))) set_list))
    (pss_one (ps_ret (pe_c0 (c_nothing T) hr (by decide) rfl)))))), ?_⟩
  obtain ⟨dd, ed⟩ := D.de
  have hpx : p < xs.length := by rw [D.len]; exact hp
  refine ⟨_, rfl, g, _, _, _, rfl, rfl, SqL.of (sG _ _ hg), atI_nat (j := 1) rfl, _, rfl, g, _, _, _, rfl, rfl, SqL.of (sG _ _ hg), atI_nat (j := 2) rfl, _, _, rfl, q1, q2, G, v1, v2, rfl, rfl, PAt.same sG _ _ h1, PAt.same sG _ _ h2, sG, fun G1 H1 c x1 g1 n1 hc => ?_⟩
  have tail : ∀ (G5 H5 : Hp), Grow G H G5 H5 → G5 c = none → CmAt a G5 H5 c (R7289g.Spec.begunWithValue (Rust.taken v1) (Rust.taken v2)) →
      ∀ H3 p3, (upd H5 cl (.lst (xs.set p (.ref c)))) p3 = none → Same (upd H5 cl (.lst (xs.set p (.ref c)))) H3 → Pc a H3 p3 0 (.int 0) → Q (.ref p3) H3 := by
    intro G5 H5 x15 g5 hc5 H3 p3 n3 s3 e3
    have D1 := D.grow x15
    have D2 := D.put (p := p) x15 n1 g5 hc5
    have y2 := (GrowD.of (a := a) (cl := cl) x15).trans (GrowD.slots (o := .lst (xs.set p (.ref c))) x15.sub D1.g)
    exact q G5 H3 p3 (y2.loose s3) ⟨_, D2.grow ((Grow.refl y2.sub).loose s3)⟩ e3
  obtain ⟨m', t', l', o', hi', ho', hs'⟩ := hc.waits
  refine ⟨_, rfl, _, rfl, c, m', t', l', o', rfl, hi', _, rfl, ?_⟩
  rw [ho']
  have hbv : R7289g.Spec.begunWithValue (Rust.taken v1) (Rust.taken v2) = if (R7289g.Spec.begun (Rust.taken v1) (Rust.taken v2)).waiting then R7289g.Spec.rejected (R7289g.Spec.wrong "send must be a function") else R7289g.Spec.begun (Rust.taken v1) (Rust.taken v2) := by
    unfold R7289g.Spec.begunWithValue R7289g.Spec.begun
    cases R7289g.Spec.commitArg (Rust.taken v1) (Rust.taken v2) <;> rfl
  rw [hbv] at tail
  cases hw : (R7289g.Spec.begun (Rust.taken v1) (Rust.taken v2)).waiting with
  | false =>
    rw [hw] at tail
    have D1 := D.grow x1
    refine ifF rfl ⟨_, rfl, _, rfl, d, dd, _, _, rfl, x1.same _ _ ed, rfl, _, rfl, g, _, _, _, rfl, rfl, SqL.of (x1.same _ _ (sG _ _ hg)), atI_nat (j := 0) rfl, q0, dx0, _, _, rfl, x1.same _ _ (sG _ _ e0), rfl, cl, xs, _, p, rfl, rfl, D1.at_, ixN_lt hpx, rfl, fun H3 p3 n3 s3 e3 => tail G1 H1 x1 g1 hc H3 p3 n3 s3 e3⟩
  | true =>
    rw [hw] at tail
    refine ifT rfl ⟨_, rfl, _, _, _, rfl, c, 1, _, oS "send must be a function", G1, m', t', l', o', rfl, rfl, rfl, .inl rfl, hi', by decide +kernel, by decide +kernel, x1.sub, g1, fun G5 H5 p5 x5 hi5 hP => ?_⟩
    have x15 : Grow G H G5 H5 := ⟨x1.up.trans x5.up, x5.sub, fun b o e => x5.but b o (ne_of_none e n1) (x1.same b o e), fun b h1 h2 => x5.new b (x1.new b h1 h2) (same_live x1.same h2)⟩
    have g5 : G5 c = none := x5.new c g1 hc.some
    have D1 := D.grow x15
    have e5 := x15.same
    have hc5 : CmAt a G5 H5 c (R7289g.Spec.rejected (R7289g.Spec.wrong "send must be a function")) := ⟨m', t', l', .ref p5, hi5, .inr ⟨rfl, _, p5, rfl, rfl, hP⟩⟩
    exact ⟨_, rfl, _, rfl, d, dd, _, _, rfl, e5 _ _ ed, rfl, _, rfl, g, _, _, _, rfl, rfl, SqL.of (e5 _ _ (sG _ _ hg)), atI_nat (j := 0) rfl, q0, dx0, _, _, rfl, e5 _ _ (sG _ _ e0), rfl, cl, xs, _, p, rfl, rfl, D1.at_, ixN_lt hpx, rfl, fun H3 p3 n3 s3 e3 => tail G5 H5 x15 g5 hc5 H3 p3 n3 s3 e3⟩
/-! ### the doors of a commit that is there -/
def spOn (a : Adr) (res : Commit → R7289g.Spec.Plain) : Sp := sp2 fun x y H Q E => ∃ (d g cl : Addr) (v1 v2 v3 : RWire.Value) (p : Nat) (cs : List (Option Commit)) (cm : Commit) (G : Hp), x = .ref d ∧ y = .ref g ∧ GvAt a G g (.int (p : Int)) v1 v2 v3 ∧ Same G H ∧ DkAt a G H d cl cs ∧ cs[p]? = some (some cm) ∧
  ∀ H' q, Same H H' → PAt a H' (Rust.given (res cm)) q → Q (.ref q) H'
def rOpen (cm : Commit) : R7289g.Spec.Plain := .arr ((R7289g.Spec.openOf cm).map R7289g.Spec.nat)
theorem c_open_sends (T : Txt K mg a) : Cal P w K mg base 4 "open_sends" (spOn a rOpen) := by
  refine cal T.d_open_sends sc_open_sends len2 fun f cdv A outer s H vs Q E hr h => ?_
  obtain ⟨_, _, rfl, d, g, cl, v1, v2, v3, p, cs, cm, G, rfl, rfl, gv, sG, ⟨xs, D⟩, hcs, q⟩ := h
  refine ⟨_, (pss_cons (ps_set (i := 2) sc_open_sends.nd rfl (Or.inl rfl) (pe_c (c_commit_of T) hr (by decide) rfl (pa_cons (pv 0) (pa_cons (pv 1) pa_nil))))
    (pss_one (ps_ret (pe_cw (c_row T) (roomH_of hr) (by decide) (.inl rfl) rfl (pa_cons (pe_ifExp (pt_val (pe_c (c_does_wait T) hr (by decide) rfl (pa_cons (pv 2) pa_nil))) (pe_lst (pa_cons (pe_c (c_number T) hr (by decide) rfl (pa_cons (pe_f T.c_Commit.cl T.n_Commit_attempt (pv 2)) pa_nil)) pa_nil)) (pe_lst pa_nil)) pa_nil))))), ?_⟩
  obtain ⟨c, hx, gc, hc⟩ := D.at hcs
  refine ⟨_, rfl, _, rfl, _, _, rfl, d, g, cl, v1, v2, v3, p, cs, xs, .ref c, G, rfl, rfl, gv, sG, D, hx, ?_⟩
  obtain ⟨m', t', l', o', hi', hrest⟩ := hc
  refine ⟨_, rfl, _, rfl, c, m', t', l', o', rfl, hi', _, rfl, ?_⟩
  rcases hrest with ⟨hw, hon, ho, hm, ht, hl, hle, h10⟩ | ⟨hw, oc, pp, ho1, ho, _⟩
  · subst ho
    obtain ⟨dx, e⟩ := hi'
    refine ifT rfl ⟨_, rfl, c, dx, _, _, rfl, e, rfl, _, rfl, _, rfl, fun H1 p1 n1 s1 e1 => ⟨fit rfl, fun l1 nl1 => ⟨_, rfl, l1, rfl, fun H3 p3 n3 s3 e3 => ?_⟩⟩⟩
    refine q H3 p3 ((s1.trans (sm_upd nl1)).trans s3) ?_
    have eo : rOpen cm = .arr [R7289g.Spec.nat (cm.lost + 1)] := by
      unfold rOpen R7289g.Spec.openOf
      rw [hw]
      rfl
    rw [eo]
    have s13 := (sm_upd (o := .lst [.ref p1]) nl1).trans s3
    refine ⟨l1, [p1], e3, s3 _ _ upd_same, p1, [], rfl, ?_, rfl⟩
    have e1' := Ins.same s13 e1
    rw [ht] at e1'
    exact e1'
  · subst ho
    refine ifF rfl ⟨fit rfl, fun l1 nl1 => ⟨_, rfl, l1, rfl, fun H3 p3 n3 s3 e3 => ?_⟩⟩
    refine q H3 p3 ((sm_upd nl1).trans s3) ?_
    have eo : rOpen cm = .arr [] := by
      unfold rOpen R7289g.Spec.openOf
      rw [hw]
      rfl
    rw [eo]
    exact ⟨l1, [], e3, s3 _ _ upd_same, rfl⟩
def rTell (cm : Commit) : R7289g.Spec.Plain := R7289g.Spec.outcomePlain cm.outcome
theorem c_tell_outcome (T : Txt K mg a) : Cal P w K mg base 4 "tell_outcome" (spOn a rTell) := by
  refine cal T.d_tell_outcome sc_tell_outcome len2 fun f cdv A outer s H vs Q E hr h => ?_
  obtain ⟨_, _, rfl, d, g, cl, v1, v2, v3, p, cs, cm, G, rfl, rfl, gv, sG, ⟨xs, D⟩, hcs, q⟩ := h
  refine ⟨_, (pss_one (ps_ret (pe_c (c_outcome_told T) hr (by decide) rfl (pa_cons (pe_c (c_commit_of T) hr (by decide) rfl (pa_cons (pv 0) (pa_cons (pv 1) pa_nil))) pa_nil)))), ?_⟩
  obtain ⟨c, hx, gc, hc⟩ := D.at hcs
  exact ⟨_, rfl, _, rfl, _, _, rfl, d, g, cl, v1, v2, v3, p, cs, xs, .ref c, G, rfl, rfl, gv, sG, D, hx, _, rfl, c, G, cm, rfl, hc, sG, fun H1 p1 s1 h1 => q H1 p1 s1 h1⟩
/-- a reply to the open attempt -/
def spSend (a : Adr) (rp : R7289g.Spec.Plain → Reply) : Sp := sp2 fun x y H Q E => ∃ (d g cl : Addr) (v1 v2 v3 : RWire.Value) (p : Nat) (cs : List (Option Commit)) (cm : Commit) (G : Hp), x = .ref d ∧ y = .ref g ∧ GvAt a G g (.int (p : Int)) v1 v2 v3 ∧ Same G H ∧ DkAt a G H d cl cs ∧ cs[p]? = some (some cm) ∧ cm.waiting = true ∧
  ∀ G' H' q, GrowD a cl G H G' H' → DkAt a G' H' d cl (cs.set p (some (cm.receive (rp (Rust.taken v1))))) → PAt a H' .nothing q → Q (.ref q) H'
theorem c_answer_send (T : Txt K mg a) : Cal P w K mg base 6 "answer_send" (spSend a .value) := by
  refine cal T.d_answer_send sc_answer_send len2 fun f cdv A outer s H vs Q E hr h => ?_
  obtain ⟨_, _, rfl, d, g, cl, v1, v2, v3, p, cs, cm, G, rfl, rfl, gv, sG, ⟨xs, D⟩, hcs, hw, q⟩ := h
  refine ⟨_, (pss_cons (ps_expr (pe_c (c_answer_commit T) hr (by decide) rfl (pa_cons (pe_c (c_commit_of T) hr (by decide) rfl (pa_cons (pv 0) (pa_cons (pv 1) pa_nil))) (pa_cons (pe_ix ix_list (pv 1) pe_int (fun _ _ => rfl)) pa_nil))))
    (pss_one (ps_ret (pe_c0 (c_nothing T) hr (by decide) rfl)))), ?_⟩
  obtain ⟨c, hx, gc, hc⟩ := D.at hcs
  obtain ⟨q0, q1, q2, q3, hg, h0, h1, h2, h3⟩ := id gv
  refine ⟨_, rfl, _, rfl, _, _, rfl, d, g, cl, v1, v2, v3, p, cs, xs, .ref c, G, rfl, rfl, gv, sG, D, hx, _, rfl, g, _, _, _, rfl, rfl, SqL.of (sG _ _ hg), atI_nat (j := 1) rfl, _, _, rfl, c, q1, G, cm, v1, rfl, rfl, hc, hw, PAt.same sG _ _ h1, sG, gc, fun G1 H1 x1 hc1 => ⟨rfl, fun H3 p3 n3 s3 e3 => ?_⟩⟩
  have D1 := D.change hx gc x1 hc1
  have y1 := GrowD.ofB (cl := cl) hc hc1.some x1
  exact q G1 H3 p3 (y1.loose s3) ⟨_, D1.grow ((Grow.refl y1.sub).loose s3)⟩ e3
theorem c_fail_send (T : Txt K mg a) : Cal P w K mg base 5 "fail_send" (spSend a .failed) := by
  refine cal T.d_fail_send sc_fail_send len2 fun f cdv A outer s H vs Q E hr h => ?_
  obtain ⟨_, _, rfl, d, g, cl, v1, v2, v3, p, cs, cm, G, rfl, rfl, gv, sG, ⟨xs, D⟩, hcs, hw, q⟩ := h
  refine ⟨_, (pss_cons (ps_expr (pe_c (c_fail_commit T) hr (by decide) rfl (pa_cons (pe_c (c_commit_of T) hr (by decide) rfl (pa_cons (pv 0) (pa_cons (pv 1) pa_nil))) (pa_cons (pe_ix ix_list (pv 1) pe_int (fun _ _ => rfl)) pa_nil))))
    (pss_one (ps_ret (pe_c0 (c_nothing T) hr (by decide) rfl)))), ?_⟩
  obtain ⟨c, hx, gc, hc⟩ := D.at hcs
  obtain ⟨q0, q1, q2, q3, hg, h0, h1, h2, h3⟩ := id gv
  refine ⟨_, rfl, _, rfl, _, _, rfl, d, g, cl, v1, v2, v3, p, cs, xs, .ref c, G, rfl, rfl, gv, sG, D, hx, _, rfl, g, _, _, _, rfl, rfl, SqL.of (sG _ _ hg), atI_nat (j := 1) rfl, _, _, rfl, c, q1, G, cm, v1, rfl, rfl, hc, hw, h1, sG, gc, fun G1 H1 x1 hc1 => ⟨rfl, fun H3 p3 n3 s3 e3 => ?_⟩⟩
  have D1 := D.change hx gc x1 hc1
  have y1 := GrowD.ofB (cl := cl) hc hc1.some x1
  exact q G1 H3 p3 (y1.loose s3) ⟨_, D1.grow ((Grow.refl y1.sub).loose s3)⟩ e3
end
end Zr
end
section
set_option maxRecDepth 100000
set_option maxHeartbeats 2000000
/-! The desk: a door, called. -/
namespace Zr
open PySem PySem.Spec PyProof.Rows L2 L2H
open Zp (oi)
open R7289g.Spec (Commit Reply replyOf)
/-- a def that does not raise is one that may -/
theorem FnOk.anyx {P : Program} {w : World} {K : PySem.W.Frag} {mg : Str → Option Value} {base : Heap} {CX : CXT} {k : Nat} {f : Addr} {fd : FuncData} {ps : List Str} {sp : Sp} (F : FnOk P w K mg base L2.CX0 k f fd ps sp) : FnOk P w K mg base CX k f fd ps sp :=
  ⟨F.len, fun A outer s H args us vs Q E hr he hb hv hs => codeAny_mono (F.run A outer s H args us vs Q E hr he hb hv hs) fun res s' h => by
    cases res with
    | error e => exact (show False from h).elim
    | ok fl =>
      cases fl with
      | ret u => exact h
      | next => exact (show False from h).elim
      | brk => exact (show False from h).elim
      | cont => exact (show False from h).elim⟩
structure HeldX (P : Program) (w : World) (K : PySem.W.Frag) (mg : Str → Option Value) (base : Heap) (k : Nat) (f : Addr) (sp : Sp) : Prop where
  ex : ∃ (fd : FuncData) (ps : List Str), FnOk P w K mg base (L2N.CX P w) k f fd ps sp ∧ PySem.W.keepIn K (.ref f) = true ∧ Binds K fd ps []
def tCallD (P : Program) (w : World) (K : PySem.W.Frag) (mg : Str → Option Value) (base : Heap) (j i : Nat) (W : WX) (t : TA) : TE := fun σ H Q => ∃ f sp, σ[i]? = some (some (.ref f)) ∧ HeldX P w K mg base j f sp ∧ t σ H fun vs H1 => sp vs H1 Q (WE W σ)
theorem pe_callD {X : Cx} {W : WX} {j k i : Nat} {x : Str} {p pos : Pos} {e : Expr} {es : List Expr} {t : TA} (hr : Room j X.A) (hk : k ≤ j) (tk : L2N.Takes X W) (hN : X.N[i]? = some x) (hv : Vis X.env.scope x) (ha : PA X (e :: es) t)
    (hdb : (x == ("__debug__" : Str)) = false := by decide) (hcd : (x == ("__classdict__" : Str)) = false := by decide)
    (he : starEach (e :: es) X.env = (false, eval e X.env) :: starEach es X.env := by rfl) (hpl : (backTo pos (starEach es X.env)).any (·.1) = false := by rfl) : PE X (.Call (.Name x p) (e :: es) [] pos) (tCallD X.prog X.w X.K X.mg X.base k i W t) := by
  refine ⟨fun pins s σ H Q I h => ?_⟩
  obtain ⟨f, sp, hs, ⟨fd, ps, F, kp, hb⟩, ht⟩ := h
  refine wpAny_Call_Name_kw (thn ((pe_var (pos := p) hN hv hdb hcd).run pins s σ H (fun v H1 => v = .ref f ∧ H1 = H) I ⟨.ref f, hs, rfl, rfl⟩) fun u s1 ⟨v, H1, I1, r1, q1⟩ => ?_)
  obtain ⟨rfl, rfl⟩ := q1
  cases r1
  refine PySem.W.callWith_K (h₀ := X.base) I.ok.mod.kin kp (thn (ha.run pos pins s1 σ _ _ I1 ht) fun us s2 ⟨vs, H2, I2, r, q⟩ => ⟨I2.kIn, ?_⟩) he hpl
  exact run_fnS F (hr.mono hk) hb (L2N.passAt tk σ) I2 r q
/-! ### what a door does -/
def spDoor (a : Adr) (k : Nat) : Sp := sp2 fun x y H Q E => ∃ (d g cl : Addr) (vs : List RWire.Value) (sw : R7289g.Spec.World) (c : R7289g.Spec.Call) (G : Hp), x = .ref d ∧ y = .ref g ∧ GvAt a G g (vs.getD 0 .nothing) (vs.getD 1 .nothing) (vs.getD 2 .nothing) (vs.getD 3 .nothing) ∧ Same G H ∧ DkAt a G H d cl sw.commits ∧
  Rust.callOf k (Rust.takenAll vs) = some c ∧ R7289g.Spec.within sw c = true ∧ sw.commits.length = 2 ∧
  (∀ p, (R7289g.Spec.step sw c).2 = .ret p → ∀ G' H' q, GrowD a cl G H G' H' → DkAt a G' H' d cl (R7289g.Spec.step sw c).1.commits → PAt a H' (Rust.given p) q → Q (.ref q) H') ∧
  ∀ err k m, (R7289g.Spec.step sw c).2 = .fail err → EIs err k m → ∀ H', Same H H' → ERef a k m H' E
theorem arg_taken (vs : List RWire.Value) (i : Nat) : Rust.argAt (Rust.takenAll vs) i = Rust.taken (vs.getD i .nothing) := by
  unfold Rust.argAt
  rw [takenAll_map, List.getD_eq_getElem?_getD, List.getD_eq_getElem?_getD, List.getElem?_map]
  cases vs[i]? <;> rfl
theorem taking_some {n : Nat} {l : List R7289g.Spec.Plain} {o : Option R7289g.Spec.Call} {c : R7289g.Spec.Call} (h : Rust.taking n l o = some c) : o = some c := by
  unfold Rust.taking at h
  split at h
  · exact h
  · cases h
theorem slot_some {v : RWire.Value} {s : Nat} (h : Rust.slotOf 1 (Rust.taken v) = some s) : v = .int (s : Int) ∧ s ≤ 1 := by
  cases v with
  | int i =>
    have h : (some i : Option Int).bind (fun k => if (decide (0 ≤ k) && Nat.ble k.toNat 1) = true then some k.toNat else none) = some s := h
    have h : (if (decide (0 ≤ i) && Nat.ble i.toNat 1) = true then some i.toNat else none) = some s := h
    by_cases hh : (decide (0 ≤ i) && Nat.ble i.toNat 1) = true
    · rw [if_pos hh] at h
      cases h
      obtain ⟨h1, h2⟩ := Bool.and_eq_true_iff.mp hh
      have h1 := of_decide_eq_true h1
      have h2 := Nat.le_of_ble_eq_true h2
      exact ⟨by rw [Int.toNat_of_nonneg h1], h2⟩
    · rw [if_neg hh] at h
      cases h
  | _ => cases h
theorem slot_call {vs : List RWire.Value} {F : Nat → Option R7289g.Spec.Call} {c : R7289g.Spec.Call} (h : (Rust.slotAt (Rust.takenAll vs) 0 1).bind F = some c) : ∃ p : Nat, vs.getD 0 .nothing = .int (p : Int) ∧ p ≤ 1 ∧ F p = some c := by
  cases hs : Rust.slotAt (Rust.takenAll vs) 0 1 with
  | none => rw [hs] at h; cases h
  | some p =>
    rw [hs] at h
    unfold Rust.slotAt at hs
    rw [arg_taken] at hs
    obtain ⟨h1, h2⟩ := slot_some hs
    exact ⟨p, h1, h2, h⟩
theorem cs_get {sw : R7289g.Spec.World} {p : Nat} {cm : Commit} (h : sw.commits.getD p none = some cm) : sw.commits[p]? = some (some cm) := by
  rw [List.getD_eq_getElem?_getD] at h
  cases e : sw.commits[p]? with
  | none => rw [e] at h; cases h
  | some o => rw [e] at h; cases h; rfl
theorem has_cm {sw : R7289g.Spec.World} {p : Nat} (h : R7289g.Spec.hasCommit sw p = true) : ∃ cm, sw.commits.getD p none = some cm := by
  unfold R7289g.Spec.hasCommit at h
  obtain ⟨_, h⟩ := Bool.and_eq_true_iff.mp h
  exact Option.isSome_iff_exists.mp h
theorem size_pos : ∀ (n : Nat) (p : R7289g.Spec.Plain), 1 ≤ R7289g.Spec.Plain.size n p := by
  intro n p
  cases n <;> cases p <;> simp [R7289g.Spec.Plain.size]
theorem sum_ge {α : Type} {f : α → Nat} (h : ∀ x, 1 ≤ f x) : ∀ l : List α, l.length ≤ (l.map f).sum
  | [] => Nat.zero_le _
  | x :: l => by
    have := sum_ge h l
    have := h x
    rw [List.length_cons, List.map_cons, List.sum_cons]
    omega
theorem fits_list {x y : R7289g.Spec.Plain} {xs : List R7289g.Spec.Plain} (h : R7289g.Spec.fits [x, y, .arr xs] = true) : xs.length ≤ 1000000 := by
  unfold R7289g.Spec.fits at h
  obtain ⟨_, h⟩ := Bool.and_eq_true_iff.mp h
  have h := of_decide_eq_true h
  have e : R7289g.Spec.Plain.size R7289g.Spec.deepMost (.arr xs) = (xs.map (R7289g.Spec.Plain.size 7)).sum + 1 := rfl
  simp only [List.map_cons, List.map_nil, List.sum_cons, List.sum_nil, e] at h
  have := sum_ge (size_pos 7) xs
  have h2 : R7289g.Spec.crossMost = 20000 := rfl
  omega
theorem list_of {a : Adr} {G : Hp} {v : RWire.Value} {q : Addr} (hp : PAt a G v q) (h : R7289g.Spec.isList (Rust.taken v) = true) : ∃ ws, v = .list ws ∧ Rust.taken v = .arr (Rust.takenAll ws) := by
  cases v with
  | list ws => exact ⟨ws, rfl, rfl⟩
  | octets u => exact hp.elim
  | _ => cases h
section
variable {a : Adr}
theorem door_ask {k : Nat} {res : R7289g.Spec.Plain → R7289g.Spec.Plain → R7289g.Spec.Plain → R7289g.Spec.Res R7289g.Spec.Plain}
    (hc : ∀ vs c, Rust.callOf k (Rust.takenAll vs) = some c → ∀ sw, (R7289g.Spec.step sw c).2 = R7289g.Spec.answer id (res (Rust.taken (vs.getD 0 .nothing)) (Rust.taken (vs.getD 1 .nothing)) (Rust.taken (vs.getD 2 .nothing))) ∧ (R7289g.Spec.step sw c).1.commits = sw.commits) :
    ∀ vs H Q E, spDoor a k vs H Q E → spQ a res vs H Q E := by
  rintro _ H Q E ⟨x, y, rfl, d, g, cl, vs, sw, c, G, rfl, rfl, ⟨q0, q1, q2, q3, hg, h0, h1, h2, h3⟩, sG, D, hcall, hw, h2l, qo, qe⟩
  obtain ⟨e1, e2⟩ := hc vs c hcall sw
  refine ⟨_, _, rfl, g, q0, q1, q2, q3, _, _, _, rfl, sG _ _ hg, PAt.same sG _ _ h0, PAt.same sG _ _ h1, PAt.same sG _ _ h2, fun err k m he hi H' s => qe err k m (by rw [e1, he]; rfl) hi H' s, fun p hp H' q s hP => qo p (by rw [e1, hp]; rfl) G H' q (GrowD.of ((Grow.refl sG).loose s)) ?_ hP⟩
  rw [e2]
  obtain ⟨xs, D⟩ := D
  exact ⟨xs, D.grow ((Grow.refl sG).loose s)⟩
theorem door0 : ∀ vs H Q E, spDoor a 0 vs H Q E → spQ a rStates vs H Q E := door_ask fun vs c h sw => by
  have h : Rust.taking 2 (Rust.takenAll vs) (some (.states (Rust.argAt (Rust.takenAll vs) 0) (Rust.argAt (Rust.takenAll vs) 1))) = some c := h
  have h := taking_some h
  rw [arg_taken, arg_taken] at h
  cases h
  exact ⟨rfl, rfl⟩
theorem door1 : ∀ vs H Q E, spDoor a 1 vs H Q E → spQ a rRecords vs H Q E := door_ask fun vs c h sw => by
  have h : Rust.taking 3 (Rust.takenAll vs) (some (.records (Rust.argAt (Rust.takenAll vs) 0) (Rust.argAt (Rust.takenAll vs) 1) (Rust.argAt (Rust.takenAll vs) 2))) = some c := h
  have h := taking_some h
  rw [arg_taken, arg_taken, arg_taken] at h
  cases h
  exact ⟨rfl, rfl⟩
theorem door2 : ∀ vs H Q E, spDoor a 2 vs H Q E → spQ a rAnswers vs H Q E := door_ask fun vs c h sw => by
  have h : Rust.taking 3 (Rust.takenAll vs) (some (.answers (Rust.argAt (Rust.takenAll vs) 0) (Rust.argAt (Rust.takenAll vs) 1) (Rust.argAt (Rust.takenAll vs) 2))) = some c := h
  have h := taking_some h
  rw [arg_taken, arg_taken, arg_taken] at h
  cases h
  exact ⟨rfl, rfl⟩
theorem door3 : ∀ vs H Q E, spDoor a 3 vs H Q E → spQ a rFates vs H Q E := door_ask fun vs c h sw => by
  have h : Rust.taking 2 (Rust.takenAll vs) (some (.fates (Rust.argAt (Rust.takenAll vs) 0) (Rust.argAt (Rust.takenAll vs) 1))) = some c := h
  have h := taking_some h
  rw [arg_taken, arg_taken] at h
  cases h
  exact ⟨rfl, rfl⟩
theorem door4 : ∀ vs H Q E, spDoor a 4 vs H Q E → spQ a rSettle vs H Q E := door_ask fun vs c h sw => by
  have h : Rust.taking 2 (Rust.takenAll vs) (some (.settling (Rust.argAt (Rust.takenAll vs) 0) (Rust.argAt (Rust.takenAll vs) 1))) = some c := h
  have h := taking_some h
  rw [arg_taken, arg_taken] at h
  cases h
  exact ⟨rfl, rfl⟩
theorem door5 : ∀ vs H Q E, spDoor a 5 vs H Q E → spStart a cmStart (fun _ => True) vs H Q E := by
  rintro _ H Q E ⟨x, y, rfl, d, g, cl, vs, sw, c, G, rfl, rfl, gv, sG, D, hcall, hw, h2l, qo, qe⟩
  have hcall := taking_some (show Rust.taking 3 (Rust.takenAll vs) ((Rust.slotAt (Rust.takenAll vs) 0 1).bind fun s0 => some (.start s0 (Rust.argAt (Rust.takenAll vs) 1) (Rust.argAt (Rust.takenAll vs) 2))) = some c from hcall)
  obtain ⟨p, hp, hp1, hc⟩ := slot_call hcall
  rw [arg_taken, arg_taken] at hc
  cases hc
  rw [hp] at gv
  exact ⟨_, _, rfl, d, g, cl, _, _, _, p, sw.commits, G, rfl, rfl, gv, sG, D, by omega, trivial, fun G' H' q x D' hP => qo _ rfl G' H' q x D' hP⟩
theorem door6 : ∀ vs H Q E, spDoor a 6 vs H Q E → spStart a cmReplies okReplies vs H Q E := by
  rintro _ H Q E ⟨x, y, rfl, d, g, cl, vs, sw, c, G, rfl, rfl, gv, sG, D, hcall, hw, h2l, qo, qe⟩
  have hcall := taking_some (show Rust.taking 4 (Rust.takenAll vs) ((Rust.slotAt (Rust.takenAll vs) 0 1).bind fun s0 => some (.startByReplies s0 (Rust.argAt (Rust.takenAll vs) 1) (Rust.argAt (Rust.takenAll vs) 2) (Rust.argAt (Rust.takenAll vs) 3))) = some c from hcall)
  obtain ⟨p, hp, hp1, hc⟩ := slot_call hcall
  rw [arg_taken, arg_taken, arg_taken] at hc
  cases hc
  rw [hp] at gv
  have gv' := gv
  obtain ⟨q0, q1, q2, q3, hg, h0, h1, h2, h3⟩ := gv'
  obtain ⟨hw1, _⟩ := Bool.and_eq_true_iff.mp (show (R7289g.Spec.validInput sw (.startByReplies p _ _ _) && _) = true from hw)
  obtain ⟨hw2, hfit⟩ := Bool.and_eq_true_iff.mp (show ((decide (p < R7289g.Spec.slots) && R7289g.Spec.isList (Rust.taken (vs.getD 3 .nothing))) && R7289g.Spec.fits [Rust.taken (vs.getD 1 .nothing), Rust.taken (vs.getD 2 .nothing), Rust.taken (vs.getD 3 .nothing)]) = true from hw1)
  obtain ⟨_, hlist⟩ := Bool.and_eq_true_iff.mp hw2
  obtain ⟨ws, e1, e2⟩ := list_of h3 hlist
  rw [e2] at hfit
  have hz := fits_list hfit
  rw [takenAll_map, List.length_map] at hz
  exact ⟨_, _, rfl, d, g, cl, _, _, _, p, sw.commits, G, rfl, rfl, gv, sG, D, by omega, ⟨ws, e1, hz⟩, fun G' H' q x D' hP => qo _ rfl G' H' q x D' hP⟩
theorem door7 : ∀ vs H Q E, spDoor a 7 vs H Q E → spStart a cmValue (fun _ => True) vs H Q E := by
  rintro _ H Q E ⟨x, y, rfl, d, g, cl, vs, sw, c, G, rfl, rfl, gv, sG, D, hcall, hw, h2l, qo, qe⟩
  have hcall := taking_some (show Rust.taking 4 (Rust.takenAll vs) ((Rust.slotAt (Rust.takenAll vs) 0 1).bind fun s0 => some (.startWithValue s0 (Rust.argAt (Rust.takenAll vs) 1) (Rust.argAt (Rust.takenAll vs) 2) (Rust.argAt (Rust.takenAll vs) 3))) = some c from hcall)
  obtain ⟨p, hp, hp1, hc⟩ := slot_call hcall
  rw [arg_taken, arg_taken, arg_taken] at hc
  cases hc
  rw [hp] at gv
  exact ⟨_, _, rfl, d, g, cl, _, _, _, p, sw.commits, G, rfl, rfl, gv, sG, D, by omega, trivial, fun G' H' q x D' hP => qo _ rfl G' H' q x D' hP⟩
theorem door_on {k : Nat} {res : Commit → R7289g.Spec.Plain}
    (hc : ∀ vs c, Rust.callOf k (Rust.takenAll vs) = some c → ∃ p, vs.getD 0 .nothing = .int ((p : Nat) : Int) ∧ ∀ sw, R7289g.Spec.within sw c = true → ∃ cm, sw.commits.getD p none = some cm ∧ (R7289g.Spec.step sw c).2 = .ret (res cm) ∧ (R7289g.Spec.step sw c).1.commits = sw.commits) :
    ∀ vs H Q E, spDoor a k vs H Q E → spOn a res vs H Q E := by
  rintro _ H Q E ⟨x, y, rfl, d, g, cl, vs, sw, c, G, rfl, rfl, gv, sG, D, hcall, hw, h2l, qo, qe⟩
  obtain ⟨p, hp, h⟩ := hc vs c hcall
  obtain ⟨cm, h1, h2, h3⟩ := h sw hw
  rw [hp] at gv
  refine ⟨_, _, rfl, d, g, cl, _, _, _, p, sw.commits, cm, G, rfl, rfl, gv, sG, D, cs_get h1, fun H' q s hP => qo _ h2 G H' q (GrowD.of ((Grow.refl sG).loose s)) ?_ hP⟩
  rw [h3]
  obtain ⟨xs, D⟩ := D
  exact ⟨xs, D.grow ((Grow.refl sG).loose s)⟩
theorem door8 : ∀ vs H Q E, spDoor a 8 vs H Q E → spOn a rOpen vs H Q E := door_on fun vs c h => by
  have h := taking_some (show Rust.taking 1 (Rust.takenAll vs) ((Rust.slotAt (Rust.takenAll vs) 0 1).bind fun s0 => some (.openSends s0)) = some c from h)
  obtain ⟨p, hp, hp1, hc⟩ := slot_call h
  cases hc
  refine ⟨p, hp, fun sw hw => ?_⟩
  obtain ⟨hw1, _⟩ := Bool.and_eq_true_iff.mp (show (R7289g.Spec.hasCommit sw p && _) = true from hw)
  obtain ⟨cm, e⟩ := has_cm hw1
  have e2 : R7289g.Spec.execute sw (.openSends p) = (sw, .ret (rOpen cm)) := by
    show R7289g.Spec.onCommit sw p _ = _
    unfold R7289g.Spec.onCommit
    rw [e]
    rfl
  exact ⟨cm, e, by show (R7289g.Spec.execute sw (.openSends p)).2 = _; rw [e2], by show (R7289g.Spec.execute sw (.openSends p)).1.commits = _; rw [e2]⟩
theorem door11 : ∀ vs H Q E, spDoor a 11 vs H Q E → spOn a rTell vs H Q E := door_on fun vs c h => by
  have h := taking_some (show Rust.taking 1 (Rust.takenAll vs) ((Rust.slotAt (Rust.takenAll vs) 0 1).bind fun s0 => some (.outcome s0)) = some c from h)
  obtain ⟨p, hp, hp1, hc⟩ := slot_call h
  cases hc
  refine ⟨p, hp, fun sw hw => ?_⟩
  obtain ⟨hw1, _⟩ := Bool.and_eq_true_iff.mp (show (R7289g.Spec.hasCommit sw p && _) = true from hw)
  obtain ⟨cm, e⟩ := has_cm hw1
  have e2 : R7289g.Spec.execute sw (.outcome p) = (sw, .ret (rTell cm)) := by
    show R7289g.Spec.onCommit sw p _ = _
    unfold R7289g.Spec.onCommit
    rw [e]
    rfl
  exact ⟨cm, e, by show (R7289g.Spec.execute sw (.outcome p)).2 = _; rw [e2], by show (R7289g.Spec.execute sw (.outcome p)).1.commits = _; rw [e2]⟩
theorem door_send {k : Nat} {rp : R7289g.Spec.Plain → Reply}
    (hc : ∀ vs c, Rust.callOf k (Rust.takenAll vs) = some c → ∃ p, vs.getD 0 .nothing = .int ((p : Nat) : Int) ∧ ∀ sw, R7289g.Spec.within sw c = true → ∃ cm, sw.commits.getD p none = some cm ∧ cm.waiting = true ∧ (R7289g.Spec.step sw c).2 = .ret .undef ∧ (R7289g.Spec.step sw c).1.commits = sw.commits.set p (some (cm.receive (rp (Rust.taken (vs.getD 1 .nothing)))))) :
    ∀ vs H Q E, spDoor a k vs H Q E → spSend a rp vs H Q E := by
  rintro _ H Q E ⟨x, y, rfl, d, g, cl, vs, sw, c, G, rfl, rfl, gv, sG, D, hcall, hw, h2l, qo, qe⟩
  obtain ⟨p, hp, h⟩ := hc vs c hcall
  obtain ⟨cm, h1, hwt, h2, h3⟩ := h sw hw
  rw [hp] at gv
  refine ⟨_, _, rfl, d, g, cl, _, _, _, p, sw.commits, cm, G, rfl, rfl, gv, sG, D, cs_get h1, hwt, fun G' H' q x D' hP => qo _ h2 G' H' q x ?_ hP⟩
  rw [h3]
  exact D'
theorem open_cm {sw : R7289g.Spec.World} {p : Nat} {cm : Commit} (e : sw.commits.getD p none = some cm) (h : R7289g.Spec.hasOpen sw p = true) : cm.waiting = true := by
  unfold R7289g.Spec.hasOpen at h
  rw [e] at h
  exact h
theorem door9 : ∀ vs H Q E, spDoor a 9 vs H Q E → spSend a .value vs H Q E := door_send fun vs c h => by
  have h := taking_some (show Rust.taking 2 (Rust.takenAll vs) ((Rust.slotAt (Rust.takenAll vs) 0 1).bind fun s0 => some (.answerSend s0 (Rust.argAt (Rust.takenAll vs) 1))) = some c from h)
  obtain ⟨p, hp, hp1, hc⟩ := slot_call h
  rw [arg_taken] at hc
  cases hc
  refine ⟨p, hp, fun sw hw => ?_⟩
  obtain ⟨hw1, _⟩ := Bool.and_eq_true_iff.mp (show ((R7289g.Spec.hasCommit sw p && R7289g.Spec.hasOpen sw p && R7289g.Spec.fits [Rust.taken (vs.getD 1 .nothing)]) && _) = true from hw)
  obtain ⟨hw1, _⟩ := Bool.and_eq_true_iff.mp hw1
  obtain ⟨hw1, ho⟩ := Bool.and_eq_true_iff.mp hw1
  obtain ⟨cm, e⟩ := has_cm hw1
  have e2 : R7289g.Spec.execute sw (.answerSend p (Rust.taken (vs.getD 1 .nothing))) = (R7289g.Spec.setCommit sw p (cm.receive (.value (Rust.taken (vs.getD 1 .nothing)))), .ret .undef) := by
    show R7289g.Spec.onCommit sw p _ = _
    unfold R7289g.Spec.onCommit
    rw [e]
  exact ⟨cm, e, open_cm e ho, by show (R7289g.Spec.execute sw (.answerSend p _)).2 = _; rw [e2], by show (R7289g.Spec.execute sw (.answerSend p _)).1.commits = _; rw [e2]; rfl⟩
theorem door10 : ∀ vs H Q E, spDoor a 10 vs H Q E → spSend a .failed vs H Q E := door_send fun vs c h => by
  have h := taking_some (show Rust.taking 2 (Rust.takenAll vs) ((Rust.slotAt (Rust.takenAll vs) 0 1).bind fun s0 => some (.failSend s0 (Rust.argAt (Rust.takenAll vs) 1))) = some c from h)
  obtain ⟨p, hp, hp1, hc⟩ := slot_call h
  rw [arg_taken] at hc
  cases hc
  refine ⟨p, hp, fun sw hw => ?_⟩
  obtain ⟨hw1, _⟩ := Bool.and_eq_true_iff.mp (show ((R7289g.Spec.hasCommit sw p && R7289g.Spec.hasOpen sw p && R7289g.Spec.fits [Rust.taken (vs.getD 1 .nothing)]) && _) = true from hw)
  obtain ⟨hw1, _⟩ := Bool.and_eq_true_iff.mp hw1
  obtain ⟨hw1, ho⟩ := Bool.and_eq_true_iff.mp hw1
  obtain ⟨cm, e⟩ := has_cm hw1
  have e2 : R7289g.Spec.execute sw (.failSend p (Rust.taken (vs.getD 1 .nothing))) = (R7289g.Spec.setCommit sw p (cm.receive (.failed (Rust.taken (vs.getD 1 .nothing)))), .ret .undef) := by
    show R7289g.Spec.onCommit sw p _ = _
    unfold R7289g.Spec.onCommit
    rw [e]
  exact ⟨cm, e, open_cm e ho, by show (R7289g.Spec.execute sw (.failSend p _)).2 = _; rw [e2], by show (R7289g.Spec.execute sw (.failSend p _)).1.commits = _; rw [e2]; rfl⟩
end
end Zr
end
section
set_option maxRecDepth 100000
set_option maxHeartbeats 2000000
/-! The desk: the table of doors. -/
namespace Zr
open PySem PySem.Spec PyProof.Rows L2 L2H
open Zp (oi)
section
variable {P : Program} {w : World} {K : PySem.W.Frag} {mg : Str → Option Value} {base : Heap} {a : Adr}
theorem CalX.held {j k : Nat} {x : Str} {sp sp' : Sp} {f : Addr} (c : CalX P w K mg base j x sp) (h : mg x = some (.ref f)) (imp : ∀ vs H Q E, sp' vs H Q E → sp vs H Q E) (hj : j ≤ k) : HeldX P w K mg base k f sp' := by
  obtain ⟨f', fd, ps, F, hm, kp, b⟩ := c.ex
  rw [h] at hm
  cases hm
  exact ⟨fd, ps, (F.mono hj).imp imp, kp, b⟩
theorem Cal.held {j k : Nat} {x : Str} {sp sp' : Sp} {f : Addr} (c : Cal P w K mg base j x sp) (h : mg x = some (.ref f)) (imp : ∀ vs H Q E, sp' vs H Q E → sp vs H Q E) (hj : j ≤ k) : HeldX P w K mg base k f sp' := by
  obtain ⟨f', fd, ps, F, hm, kp, b⟩ := c.ex
  rw [h] at hm
  cases hm
  exact ⟨fd, ps, FnOk.anyx ((F.mono hj).imp imp), kp, b⟩
theorem doors_held (T : Txt K mg a) : ∃ (d : Addr) (es : Array DictEntry), mg "DOORS" = some (.ref d) ∧ KInt K d es ∧ ∀ k : Nat, k < 12 → ∃ f, findBy Value.isInt es (k : Int) = some (.ref f) ∧ HeldX P w K mg base 8 f (spDoor a k) := by
  obtain ⟨d, es, h1, h2, ⟨f0, m0, e0⟩, ⟨f1, m1, e1⟩, ⟨f2, m2, e2⟩, ⟨f3, m3, e3⟩, ⟨f4, m4, e4⟩, ⟨f5, m5, e5⟩, ⟨f6, m6, e6⟩, ⟨f7, m7, e7⟩, ⟨f8, m8, e8⟩, ⟨f9, m9, e9⟩, ⟨f10, m10, e10⟩, ⟨f11, m11, e11⟩⟩ := T.doors
  refine ⟨d, es, h1, h2, fun k hk => ?_⟩
  match k, hk with
  | 0, _ => exact ⟨f0, e0, (c_possible_states T).held m0 door0 (by decide)⟩
  | 1, _ => exact ⟨f1, e1, (c_possible_records T).held m1 door1 (by decide)⟩
  | 2, _ => exact ⟨f2, e2, (c_possible_answers T).held m2 door2 (by decide)⟩
  | 3, _ => exact ⟨f3, e3, (c_fates T).held m3 door3 (by decide)⟩
  | 4, _ => exact ⟨f4, e4, (c_settle T).held m4 door4 (by decide)⟩
  | 5, _ => exact ⟨f5, e5, (c_start T).held m5 door5 (by decide)⟩
  | 6, _ => exact ⟨f6, e6, (c_start_by_replies T).held m6 door6 (by decide)⟩
  | 7, _ => exact ⟨f7, e7, (c_start_with_value T).held m7 door7 (by decide)⟩
  | 8, _ => exact ⟨f8, e8, (c_open_sends T).held m8 door8 (by decide)⟩
  | 9, _ => exact ⟨f9, e9, (c_answer_send T).held m9 door9 (by decide)⟩
  | 10, _ => exact ⟨f10, e10, (c_fail_send T).held m10 door10 (by decide)⟩
  | 11, _ => exact ⟨f11, e11, (c_tell_outcome T).held m11 door11 (by decide)⟩
  | _ + 12, h => exact absurd h (by omega)
def tDoors (P : Program) (w : World) (K : PySem.W.Frag) (mg : Str → Option Value) (base : Heap) (a : Adr) : TE := fun _ H Q => ∀ (d : Addr) (es : Array DictEntry), KInt K d es → (∀ k : Nat, k < 12 → ∃ f, findBy Value.isInt es (k : Int) = some (.ref f) ∧ HeldX P w K mg base 8 f (spDoor a k)) → Q (.ref d) H
theorem pe_doors {X : Cx} {a : Adr} {pos : Pos} (T : Txt X.K X.mg a) (hg : Gl X "DOORS" := by rfl) : PE X (.Name "DOORS" pos) (tDoors X.prog X.w X.K X.mg X.base a) := by
  obtain ⟨d, es, h1, h2, h3⟩ := doors_held (P := X.prog) (w := X.w) (base := X.base) T
  exact ⟨fun pins s σ H Q I h => (pe_glob (v := .ref d) hg h1 rfl).run pins s σ H Q I (h d es h2 h3)⟩
end
end Zr
end
section
set_option maxRecDepth 100000
set_option maxHeartbeats 2000000
/-! The desk: a request, read. -/
namespace Zr
open PySem PySem.Spec PyProof.Rows L2 L2H
open Zp (oi Runs)
open R7289g.Spec (Commit Reply replyOf)
/-! ### plain: what a request is -/
theorem call_few {k : Nat} {l : List R7289g.Spec.Plain} {c : R7289g.Spec.Call} (h : Rust.callOf k l = some c) : k < 12 ∧ l.length ≤ 4 := by
  unfold Rust.callOf at h
  split at h
  · rename_i h16
    have t : ∀ (n : Nat) o, n ≤ 4 → Rust.taking n l o = some c → l.length ≤ 4 := fun n o hn h => by
      unfold Rust.taking at h
      split at h
      · rename_i hb
        have := Nat.le_of_ble_eq_true hb
        omega
      · cases h
    unfold Rust.calls0 at h
    split at h
    all_goals first
      | exact ⟨by decide, t _ _ (by decide) h⟩
      | cases h
  · cases h
theorem request_parts {bs : RWire.Text} {c : R7289g.Spec.Call} (h : Rust.asked bs = some c) : ∃ (x y n : UInt8) (r : RWire.Text) (l : List RWire.Value), bs = x :: y :: n :: r ∧ RWire.readMany (RWire.readF RWire.nestMost) n.toNat r = some (l, []) ∧ Zp.kinAll l = true ∧ Rust.callOf (x.toNat + 256 * y.toNat) (Rust.takenAll l) = some c := by
  unfold Rust.asked at h
  cases hr : RWire.readRequest bs with
  | none => rw [hr] at h; cases h
  | some p =>
    obtain ⟨d, l⟩ := p
    rw [hr] at h
    have h : (if Rust.ofKinds l = true then Rust.callOf d (Rust.takenAll l) else none) = some c := h
    by_cases hk : Rust.ofKinds l = true
    · rw [if_pos hk] at h
      match bs, hr with
      | x :: y :: n :: r, hr =>
        have hr : (match RWire.readArgs n.toNat r with
          | none => none
          | some l => some (x.toNat + 256 * y.toNat, l)) = some (d, l) := hr
        cases ha : RWire.readArgs n.toNat r with
        | none => rw [ha] at hr; cases hr
        | some l' =>
          rw [ha] at hr
          cases hr
          refine ⟨x, y, n, r, l, rfl, ?_, ?_, h⟩
          · unfold RWire.readArgs at ha
            split at ha
            · rename_i l2 heq
              cases ha
              exact heq
            · cases ha
          · have hk' : ((RWire.noBigMany l && RWire.noOctetsMany l) && RWire.noWideMany l) = true := hk
            rw [Bool.and_assoc] at hk'
            exact hk'
      | [], hr => cases hr
      | [_], hr => cases hr
      | [_, _], hr => cases hr
    · rw [if_neg hk] at h
      cases h
/-- so many values, one after another -/
theorem many_at {f : RWire.Octets → Option (RWire.Value × RWire.Octets)} : ∀ (n : Nat) {b r : RWire.Octets} {l : List RWire.Value}, RWire.readMany f n b = some (l, r) → l.length = n ∧ ∀ i, i < n → ∃ v b1 b2 l1, l[i]? = some v ∧ RWire.readMany f i b = some (l1, b1) ∧ f b1 = some (v, b2) ∧ RWire.readMany f (i + 1) b = some (l1 ++ [v], b2)
  | 0, b, r, l, h => by
    have h : some (([] : List RWire.Value), b) = some (l, r) := h
    cases h
    exact ⟨rfl, fun i hi => absurd hi (Nat.not_lt_zero _)⟩
  | n + 1, b, r, l, h => by
    rw [RWire.readMany] at h
    cases hf : f b with
    | none => rw [hf] at h; cases h
    | some p =>
      obtain ⟨v, b'⟩ := p
      rw [hf] at h
      simp only at h
      cases hm : RWire.readMany f n b' with
      | none => rw [hm] at h; cases h
      | some q =>
        obtain ⟨l', r'⟩ := q
        rw [hm] at h
        cases h
        obtain ⟨h1, h2⟩ := many_at n hm
        have step : ∀ k m c, RWire.readMany f k b' = some (m, c) → RWire.readMany f (k + 1) b = some (v :: m, c) := fun k m c e => by
          rw [RWire.readMany, hf]
          simp only
          rw [e]
        refine ⟨by simp [h1], fun i hi => ?_⟩
        cases i with
        | zero => exact ⟨v, b, b', [], rfl, rfl, hf, step 0 [] b' rfl⟩
        | succ i =>
          obtain ⟨w, b1, b2, l1, e1, e2, e3, e4⟩ := h2 i (by omega)
          exact ⟨w, b1, b2, v :: l1, by simpa using e1, step i l1 b1 e2, e3, step (i + 1) (l1 ++ [w]) b2 e4⟩
end Zr
end
section
set_option maxRecDepth 100000
set_option maxHeartbeats 2000000
/-! The desk: a request, answered. -/
namespace Zr
open PySem PySem.Spec PyProof.Rows L2 L2H
open Zp (oi Runs)
open R7289g.Spec (Commit Reply replyOf)
theorem Grow.thenB {r : Addr} {G H G1 H1 G2 H2 : Hp} (x : Grow G H G1 H1) (y : GrowB r G1 H1 G2 H2) (n : H r = none) : Grow G H G2 H2 :=
  ⟨x.up.trans y.up, y.sub, fun b o e => y.but b o (ne_of_none e n) (x.same b o e), fun b h1 h2 => y.new b (x.new b h1 h2) (same_live x.same h2)⟩
theorem step_fail {sw : R7289g.Spec.World} {c : R7289g.Spec.Call} {err : R7289g.Spec.Err} (h : (R7289g.Spec.step sw c).2 = .fail err) : (R7289g.Spec.step sw c).1.commits = sw.commits := by
  have on : ∀ p (f : Commit → R7289g.Spec.World × R7289g.Spec.Ans), (∀ cm e, (f cm).2 ≠ .fail e) → (R7289g.Spec.onCommit sw p f).2 ≠ .fail err := fun p f hf => by
    unfold R7289g.Spec.onCommit
    split
    · exact hf _ _
    · intro z; cases z
  cases c with
  | states x y => rfl
  | records x y z => rfl
  | answers x y z => rfl
  | fates x y => rfl
  | settling x y => rfl
  | start p x y => cases h
  | startByReplies p x y z => cases h
  | startWithValue p x y z => cases h
  | openSends p => exact absurd h (on p _ fun cm e z => by cases z)
  | answerSend p x => exact absurd h (on p _ fun cm e z => by cases z)
  | failSend p x => exact absurd h (on p _ fun cm e z => by cases z)
  | outcome p => exact absurd h (on p _ fun cm e z => by cases z)
theorem runs_at {b b2 : RWire.Octets} {v : RWire.Value} (h : RWire.readF RWire.nestMost b = some (v, b2)) (hk : Zp.kin v = true) : Runs (.a [] b) v b2 := Zp.reads h hk
section
variable {P : Program} {w : World} {K : PySem.W.Frag} {mg : Str → Option Value} {base : Heap} {a : Adr}
abbrev spTold (a : Adr) : Sp := sp1 fun x H Q E => ∃ (p : Addr) (v : RWire.Value), x = .ref p ∧ PAt a H v p ∧ (RWire.write v).length ≤ 1000000 ∧ spOc (oi (RWire.write v)) H Q
abbrev spCodes : Sp := sp1 fun x H Q E => ∃ s, x = .str s ∧ s.cps.size ≤ 1000 ∧ spOc (cI s) H Q
abbrev spCounted : Sp := sp1 fun x H Q E => ∃ (l : Addr) (u : RWire.Text), x = .ref l ∧ Oc H l u ∧ u.length ≤ 4000000 ∧ spOc (oi (RWire.writeText u)) H Q
def tAnsBody (P : Program) (w : World) (K : PySem.W.Frag) (mg : Str → Option Value) (base : Heap) (a : Adr) (W : WX) : TS :=
  tRet (tOp rCat (tLst (tCons (tC (.int 0)) tNil)) (tCallW (spTold a) (tCons (tCallD P w K mg base 8 3 W (tCons (tVar 0) (tCons (tVar 4) tNil))) tNil)))
def tAnsSuite (a : Adr) (e : Addr) (cls : Value) (d : Option Addr) : TS :=
  tRet (tOp rCat (tLst (tCons (tC (.int 1)) (tCons (tXf e cls d a.refused "kind" (tVar 5)) tNil))) (tCallW spCounted (tCons (tCallW spCodes (tCons (tXf e cls d a.refused "message" (tVar 5)) tNil)) tNil)))
def spAnswered (a : Adr) : Sp := sp2 fun x y H Q E => ∃ (d l cl : Addr) (bs : RWire.Text) (sw : R7289g.Spec.World) (c : R7289g.Spec.Call) (G : Hp), x = .ref d ∧ y = .ref l ∧ Oc G l bs ∧ bs.length ≤ 1000000 ∧ Same G H ∧ DkAt a G H d cl sw.commits ∧ sw.commits.length = 2 ∧ Rust.asked bs = some c ∧ R7289g.Spec.within sw c = true ∧
  (∀ p, (R7289g.Spec.step sw c).2 = .ret p → (RWire.write (Rust.given p)).length ≤ 1000000) ∧
  ∀ G' H' q, GrowD a cl G H G' H' → DkAt a G' H' d cl (R7289g.Spec.step sw c).1.commits → H q = none → Oc H' q (RWire.writeAnswer (Rust.answerOf (R7289g.Spec.step sw c).2)) → Q (.ref q) H'
theorem c_answered (T : Txt K mg a) : Cal P w K mg base 9 "answered" (spAnswered a) := by
  refine cal T.d_answered sc_answered len2 fun f cdv A outer s H vs Q E hr h => ?_
  obtain ⟨_, _, rfl, d, l, cl, bs, sw, c, G, rfl, rfl, hl, hz, sG, D_hyp, h2l, hask, hwin, hsz, q⟩ := h
  refine ⟨_, pss_cons (ps_set (i := 2) sc_answered.nd rfl (Or.inr rfl) (pe_mk (m_Reader T) hr (by decide) rfl (pa_cons (pv 1) pa_nil))) (pss_cons (ps_set (i := 3) sc_answered.nd rfl (Or.inl rfl) (pe_ix ix_kint (pe_doors T) (pe_c (c_take_number T) hr (by decide) rfl (pa_cons (pv 2) (pa_cons pe_int pa_nil))) (fun _ _ => rfl))) (pss_cons (ps_setLc (i := 4) (own := [("turn", 6)]) (g := (gName 6)) (tt := tYes) rfl sc_answered.nd rfl rfl (sw_true rfl rfl rfl (by decide +kernel)) (pi_range1 rfl T.b_range (pa_cons (pe_c (c_take_octet T) hr (by decide) rfl (pa_cons (pv 2) pa_nil)) pa_nil)) (blkOk_by (N := ["desk", "octets", "reader", "door", "given", "e", "turn"]) (sc := defScope s_answered) (by decide +kernel)) (fun _ _ _ _ _ => (pg_name (i := 6) sc_answered.nd rfl (Or.inl rfl))) (fun _ _ _ _ _ => pts_nil) (fun _ _ _ _ _ => (pe_c (c_take_piece T) hr (by decide) rfl (pa_cons (pv 2) pa_nil)))) (pss_cons (ps_expr (pe_bm PySem.F.plainAttrs_list PySem.F.slot_list_extend PySem.F.type_list_extend mt_extend (pv 4) (pa_cons (pe_lc (own := [("turn", 6)]) (g := (gName 6)) (tt := tYes) rfl sc_answered.nd (pi_range1 rfl T.b_range (pa_cons (pe_op op_sub (pe_gc rfl T.k_MOST_ARGUMENTS) (pe_callB call_len_seq rfl T.b_len (by decide +kernel) (pa_cons (pv 4) pa_nil))) pa_nil)) (blkOk_by (N := ["desk", "octets", "reader", "door", "given", "e", "turn"]) (sc := defScope s_answered) (by decide +kernel)) (fun _ _ _ _ _ => (pg_name (i := 6) sc_answered.nd rfl (Or.inl rfl))) (fun _ _ _ _ _ => pts_nil) (fun _ _ _ _ _ => (pe_c0 (c_nothing T) hr (by decide) rfl))) pa_nil))) (pss_one (L2N.ps_try_as (i := 5) (c := .ref a.refused) (tb := tAnsBody P w K mg base a) (ts := tAnsSuite a) (Wout := fun _ _ _ _ => False) rfl rfl sc_answered.nd rfl rfl ⟨rfl, by decide, Or.inl T.refC.g⟩ takes0N
    (fun W pn xe tk _ => pss_one (ps_ret (pe_op op_cat (pe_lst (pa_cons pe_int pa_nil)) (pe_c (c_told T) hr (by decide) rfl (pa_cons (pe_callD (i := 3) hr (Nat.le_refl _) tk rfl (Or.inl rfl) (pa_cons (pv 0) (pa_cons (pv 4) pa_nil))) pa_nil)))))
    (fun e oe cls d pn hz hf => ?_)))))), ?_⟩
  · obtain ⟨vs, hd⟩ := hf
    have hw : Warm (Cx.suite (cxC P w K mg base ["desk", "octets", "reader", "door", "given", "e", "turn"] "answered" (defScope s_answered) f cdv A outer s H E) e ((e, oe) :: pn)) := .inr ⟨(e, oe), ⟨rfl, vs, hd, hz.2.2 vs hd⟩, List.mem_cons_self⟩
    exact pss_one (ps_ret (pe_op op_cat (pe_lst (pa_cons pe_int (pa_cons (pe_xf T.refC.xf T.refC.nk hz.zc ⟨vs, hd⟩ (pv 5)) pa_nil))) (pe_cw (c_counted T) (roomH_mark hr _) (by decide) hw rfl (pa_cons (pe_cw (c_codes T) (roomH_mark hr _) (by decide) hw rfl (pa_cons (pe_xf T.refC.xf T.refC.nm hz.zc ⟨vs, hd⟩ (pv 5)) pa_nil)) pa_nil))))
  obtain ⟨x, y, n, rr, vs, rfl, hmany, hkin, hcall⟩ := request_parts hask
  obtain ⟨hk12, hv4⟩ := call_few hcall
  rw [takenAll_map, List.length_map] at hv4
  obtain ⟨hvl, hat⟩ := many_at _ hmany
  refine ⟨_, rfl, ?_⟩
  intro r dx nr ndx hne
  refine madeR rfl nr ndx fun H1 s1 hR1 => ?_
  have gr : G r = none := sm_none sG nr
  have x1 := (Grow.refl sG).loose s1
  intro dd es hK hdo
  obtain ⟨fdoor, hfind, hheld⟩ := hdo (x.toNat + 256 * y.toNat) hk12
  refine ⟨_, rfl, _, _, rfl, r, l, x :: y :: n :: rr, [x, y], n :: rr, 0, rfl, rfl, (by show 2 ≤ 8; decide), hR1, x1.sub _ _ hl, rfl, fun H2 b2 hR2 => ?_⟩
  have hnum : RWire.numOf [x, y] = x.toNat + 256 * y.toNat := by
    show x.toNat + 256 * (y.toNat + 256 * 0) = _
    omega
  rw [hnum]
  refine ⟨dd, _, es, _, .ref fdoor, rfl, rfl, hK, hfind, rfl, ?_⟩
  have x2 : Grow G H G H2 := x1.thenB (GrowB.moved x1.sub b2 gr) nr
  have hR1' : Rdr a H1 r l 0 := hR1
  have hlr : l ≠ r := hR1'.ne (x1.sub _ _ hl)
  refine ⟨_, rfl, _, rfl, r, l, x :: y :: n :: rr, 2, n, rfl, hR2, x2.sub _ _ hl, rfl, fun H3 b3 hR3 => ⟨_, rfl, by omega, by have := UInt8.toNat_lt n; omega, fun D hD => ?_⟩⟩
  have x3 : Grow G H G H3 := x2.thenB (GrowB.moved x2.sub b3 gr) nr
  have gD := sm_none x3.sub hD
  have nD := sm_none x3.same hD
  have hDr : D ≠ r := fun z => by rw [z] at hD; exact hR3.some hD
  refine ⟨fun i m HH => m = n.toNat - i ∧ i ≤ n.toNat ∧ ∃ (G1 : Hp) (ps : List Addr) (j : Nat) (l1 : List RWire.Value), Grow G H G1 HH ∧ G1 r = none ∧ G1 D = none ∧ HH D = some (.lst (ps.map V.ref)) ∧ PAll a G1 (vs.take i) ps ∧ Rdr a HH r l j ∧ RWire.readMany (RWire.readF RWire.nestMost) i rr = some (l1, (x :: y :: n :: rr).drop j) ∧ j ≤ (x :: y :: n :: rr).length,
    ⟨_, rfl, Nat.zero_le _, G, [], 3, [], x3.poke nD gD, gr, gD, upd_same, rfl, Ins.same (sm_upd hD) hR3, rfl, by simp⟩, ?_⟩
  rintro i m HH ⟨rfl, hi, G1, ps, j, l1, x4, g1r, g1D, eD, hps, hRj, hrd, hj⟩
  have hnn : ((n.toNat : Nat) : Int).toNat = n.toNat := Int.toNat_natCast _
  have hpl := pall_len hps
  by_cases hlt : i < n.toNat
  · refine .inr ⟨(by rw [hnn]; exact hlt : i < ((n.toNat : Nat) : Int).toNat), fun HH => ∃ (G1 : Hp) (ps : List Addr) (j : Nat) (l1 : List RWire.Value), Grow G H G1 HH ∧ G1 r = none ∧ G1 D = none ∧ HH D = some (.lst (ps.map V.ref)) ∧ PAll a G1 (vs.take (i + 1)) ps ∧ Rdr a HH r l j ∧ RWire.readMany (RWire.readF RWire.nestMost) (i + 1) rr = some (l1, (x :: y :: n :: rr).drop j) ∧ j ≤ (x :: y :: n :: rr).length,
      fun H' hH => ⟨n.toNat - (i + 1), by omega, rfl, hlt, hH⟩, ?_⟩
    rintro z H' ⟨rfl, rfl⟩
    obtain ⟨v, b1, b2', l2, e1, e2, e3, e4⟩ := hat i hlt
    rw [hrd] at e2
    cases e2
    have hkv := kin_mem hkin v (List.mem_of_getElem? e1)
    refine ⟨rfl, _, rfl, _, rfl, r, l, x :: y :: n :: rr, j, v, b2', G1, rfl, hRj, x4.sub _ _ (x4.up _ _ hl), hj, hz, runs_at e3 hkv, x4.sub, g1r, fun G2 H2' p j2 x5 n5 hp hR2' hd2 hlt2 hle2 => ?_⟩
    have eD2 := x5.but _ _ hDr eD
    have g2D : G2 D = none := x5.new D g1D (by rw [eD]; simp)
    have x6 := x4.thenB x5 nr
    have hvl8 : i ≤ 4 := by omega
    refine ⟨_, eD2, by rw [List.length_map, ← hpl, List.length_take, sizeLine_eq]; omega, G2, ps ++ [p], j2, _, x6.poke nD g2D, x5.new r g1r hRj.some, g2D, by rw [upd_same, List.map_append]; rfl, ?_, ?_, by rw [hd2]; exact e4, hle2⟩
    · have htake : vs.take (i + 1) = vs.take i ++ [v] := by rw [List.take_succ, e1]; rfl
      rw [htake]
      refine pall_of _ _ (by simp [← hpl]) fun j' v' p' h1 h2 => ?_
      by_cases hj' : j' < ps.length
      · rw [List.getElem?_append_left (by omega)] at h1
        rw [List.getElem?_append_left hj'] at h2
        exact PAt.same x5.up _ _ (pall_get hps h1 h2)
      · rw [List.getElem?_append_right (by omega)] at h1
        rw [List.getElem?_append_right (by omega)] at h2
        have e0' : j' - ps.length = 0 := by
          cases e0' : j' - ps.length with
          | zero => rfl
          | succ k => rw [e0'] at h2; simp at h2
        rw [hpl, e0'] at h1
        rw [e0'] at h2
        cases h1
        cases h2
        exact hp
    · obtain ⟨dr, er⟩ := hR2'
      exact ⟨dr, by rw [upd_ne (fun z => hDr z.symm)]; exact er⟩
  · have ei : i = n.toNat := by omega
    subst ei
    refine .inl ⟨(by rw [hnn]; exact Nat.le_refl _ : ((n.toNat : Nat) : Int).toNat ≤ n.toNat), ?_⟩
    have hall : vs.take n.toNat = vs := by rw [← hvl]; exact List.take_length
    rw [hall] at hps hpl
    refine ⟨_, rfl, .inl ⟨rfl, _, SqL.of eD⟩, _, rfl, D, _, rfl, .inl (SqL.of eD), _, _, rfl, rfl, _, rfl, by rw [List.length_map, ← hpl]; omega, by rw [List.length_map, ← hpl]; omega, fun D2 hD2 => lc_r (G0 := G1) (fun i y G' => ∃ p, y = .ref p ∧ PAt a G' ((fun _ => RWire.Value.nothing) i) p) hD2 x4.sub (by rw [List.length_map, ← hpl]; omega) ?_ ?_ ?_⟩
    · rintro i y G2 G3 s6 ⟨p, h1, h2⟩
      exact ⟨p, h1, PAt.same s6 _ _ h2⟩
    · intro i G2 H2' hi gr' Yes No k
      refine ⟨rfl, rfl, fun H5 p5 n5 s5 e5 => ?_⟩
      obtain ⟨G5, x5, _, z5⟩ := grow_pc (Grow.refl gr'.sub) n5 s5 e5
      exact k _ G5 H5 x5 ⟨p5, rfl, z5⟩
    intro G2 H4 ys L
    obtain ⟨G3, ps2, x5, eD2, al2⟩ := L.row hD2
    have x6 := x4.trans x5
    have g3D : G3 D = none := x5.new D g1D (by rw [eD]; simp)
    have eD4 := x5.same _ _ eD
    have hn0 : ((4 : Int) - (((ps.map V.ref).length : Nat) : Int)).toNat = 4 - vs.length := by rw [List.length_map, ← hpl]; omega
    rw [hn0, ixs_all] at al2
    have hp2 := pall_len al2
    rw [List.length_map, List.length_range] at hp2
    refine ⟨D, D2, _, _, rfl, rfl, eD4, x5.sub _ _ eD2, by rw [List.length_map, List.length_map, ← hpl, ← hp2, sizeLine_eq]; omega, ?_⟩
    -- the arguments stand
    have x7 := x6.poke (b := D) (o := .lst (ps.map V.ref ++ ps2.map V.ref)) nD g3D
    have x8 := x7.keep (p := D) upd_same nD g3D
    have hgv : GvAt a (upd G3 D (.lst (ps.map V.ref ++ ps2.map V.ref))) D (vs.getD 0 .nothing) (vs.getD 1 .nothing) (vs.getD 2 .nothing) (vs.getD 3 .nothing) := by
      have hlen : (ps ++ ps2).length = 4 := by rw [List.length_append, ← hpl, ← hp2]; omega
      obtain ⟨q0, q1, q2, q3, e4⟩ : ∃ q0 q1 q2 q3, ps ++ ps2 = [q0, q1, q2, q3] := by
        match ps ++ ps2, hlen with
        | [q0, q1, q2, q3], _ => exact ⟨q0, q1, q2, q3, rfl⟩
      have get : ∀ (i : Nat) p, (ps ++ ps2)[i]? = some p → PAt a (upd G3 D (.lst (ps.map V.ref ++ ps2.map V.ref))) (vs.getD i .nothing) p := by
        intro i p hp
        refine PAt.same (sm_upd g3D) _ _ ?_
        by_cases hi : i < ps.length
        · rw [List.getElem?_append_left hi] at hp
          have hv := List.getElem?_eq_getElem (show i < vs.length by omega)
          rw [List.getD_eq_getElem?_getD, hv]
          exact PAt.same x5.up _ _ (pall_get hps hv hp)
        · rw [List.getElem?_append_right (by omega)] at hp
          have hi2 : i - ps.length < ps2.length := (List.getElem?_eq_some_iff.mp hp).1
          rw [List.getD_eq_getElem?_getD, List.getElem?_eq_none (by omega)]
          have hv : ((List.range (4 - vs.length)).map (fun (_ : Nat) => RWire.Value.nothing))[i - ps.length]? = some .nothing := by
            rw [List.getElem?_map, List.getElem?_range (by omega)]
            rfl
          exact pall_get al2 hv hp
      refine ⟨q0, q1, q2, q3, ?_, get 0 q0 (by rw [e4]; rfl), get 1 q1 (by rw [e4]; rfl), get 2 q2 (by rw [e4]; rfl), get 3 q3 (by rw [e4]; rfl)⟩
      rw [upd_same, ← List.map_append, e4]
      rfl
    generalize upd G3 D (.lst (ps.map V.ref ++ ps2.map V.ref)) = G8 at x8 hgv
    generalize upd H4 D (.lst (ps.map V.ref ++ ps2.map V.ref)) = H8 at x8 ⊢
    obtain ⟨xs, Dk⟩ := D_hyp
    have D8 := Dk.grow x8
    have bad : ∀ err, (R7289g.Spec.step sw c).2 = .fail err → ∀ k m, EIs err k m → ∀ H', Same H8 H' → ERef a k m H'
        (WE (wAs K (.ref a.refused) 5 (tAnsSuite a) (fun _ _ _ _ => False) { nx := fun _ H' => Q .non H', rt := Q }) [some (.ref d), some (.ref l), some (.ref r), some (.ref fdoor), some (.ref D), none, none]) := by
      intro err he k m hi H' s' Hx dd' sx ndd edd
      refine ⟨true, T.refC.te, fun _ e ne => ?_, fun z => nomatch z⟩
      refine ⟨_, rfl, rfl, rfl, dd', fRef k m, .int k, rfl, edd, rfl, fit rfl, fun z nz => ?_⟩
      have sz := sm_upd (o := .lst [.int 1, .int k]) nz
      refine ⟨_, rfl, rfl, rfl, dd', fRef k m, .str m, rfl, sz _ _ edd, rfl, _, rfl, m, rfl, hi.sz, fun H5 lc nlc s5 e5 => ⟨_, rfl, lc, err.msg.map Rust.octetOf, rfl, oc_of e5 hi.msg, ?_, fun H6 lo nlo s6 e6 => ⟨z, lo, _, _, rfl, rfl, s6 _ _ (s5 _ _ upd_same), e6, ?_, fun pz npz => ?_⟩⟩⟩
      · have := congrArg List.length hi.msg
        rw [cI_len, Zp.oi_len] at this
        have := hi.sz
        omega
      · have h1 := congrArg List.length hi.msg
        rw [cI_len, Zp.oi_len] at h1
        have h2 := hi.sz
        have h3 : (RWire.writeText (err.msg.map Rust.octetOf)).length = 4 + (err.msg.map Rust.octetOf).length := by
          unfold RWire.writeText RWire.writeCount
          rw [List.length_append, Zp.low_length]
        rw [List.length_map, Zp.oi_len, h3, sizeLine_eq]
        show 2 + _ ≤ _
        omega
      · have s16 := ((sz.trans s5).trans s6).trans (sm_upd (o := .lst ([V.int 1, .int k] ++ (oi (RWire.writeText (err.msg.map Rust.octetOf))).map V.int)) npz)
        have sall := (s'.trans sx).trans s16
        have xall := x8.loose sall
        refine q G8 _ pz (GrowD.of xall) ?_ (sm_none x8.same (sm_none ((s'.trans sx).trans ((sz.trans s5).trans s6)) npz)) ?_
        · rw [step_fail he]
          exact ⟨xs, Dk.grow xall⟩
        · rw [he]
          show (upd _ pz _) pz = _
          rw [upd_same]
          congr 2
          rcases hi.cls with ⟨rfl, hc⟩ | ⟨rfl, hc⟩
          · show _ = (oi (1 :: UInt8.ofNat (Rust.classOf err.cls) :: RWire.writeText (err.msg.map Rust.octetOf))).map V.int
            rw [hc]
            rfl
          · show _ = (oi (1 :: UInt8.ofNat (Rust.classOf err.cls) :: RWire.writeText (err.msg.map Rust.octetOf))).map V.int
            rw [hc]
            rfl
    refine ⟨fit rfl, fun z1 nz1 => ⟨fdoor, spDoor a _, rfl, hheld, _, rfl, _, rfl, ?_⟩⟩
    have sz1 := sm_upd (o := .lst [.int 0]) nz1
    have x9 := x8.loose sz1
    have n1cl : z1 ≠ cl := fun z => by rw [z, D8.at_] at nz1; cases nz1
    refine ⟨_, _, rfl, d, D, cl, vs, sw, c, G8, rfl, rfl, hgv, x9.sub, ⟨xs, Dk.grow x9⟩, hcall, hwin, h2l, fun p hp G' H' q' y' D' hP => ?_, fun err k m he hi H' s' => bad err he k m hi H' (sz1.trans s')⟩
    have ez1 : H' z1 = some (.lst [.int 0]) := y'.but z1 _ n1cl (fun dx fs z => by cases z) upd_same
    refine ⟨_, rfl, q', Rust.given p, rfl, hP, hsz p hp, fun H5 lo nlo s5 e5 => ⟨z1, lo, _, _, rfl, rfl, s5 _ _ ez1, e5, ?_, fun pz npz => ?_⟩⟩
    · have := hsz p hp
      rw [List.length_map, Zp.oi_len, sizeLine_eq]
      show 1 + _ ≤ _
      omega
    · have s6 := s5.trans (sm_upd (o := .lst ([V.int 0] ++ (oi (RWire.write (Rust.given p))).map V.int)) npz)
      have y9 := (GrowD.of (a := a) (cl := cl) x9).trans y'
      obtain ⟨xs', Dn⟩ := D'
      refine q G' _ pz (y9.loose s6) ⟨xs', Dn.grow ((Grow.refl y'.sub).loose s6)⟩ ?_ ?_
      · cases e : H pz with
        | none => rfl
        | some o => exact absurd (sm_none s5 npz) (y9.live pz (by rw [e]; simp))
      · rw [hp]
        show (upd _ pz _) pz = _
        rw [upd_same]
        rfl
end
end Zr
end
section
/-! Requests, one after another: plain. -/
namespace Zr
open Zp (oi)
abbrev Cs := List (List (List Int))
def tellAll (sw : R7289g.Spec.World) (cs : Cs) : List Int := PyFlat.told (PyFlat.played (fun s c => Zn43Neutral.step s (c.headD [])) sw (cs.map PyZn43.whole))
def bytesAll (cs : Cs) : List (List UInt8) := (cs.map PyZn43.whole).map fun c => Zn43Neutral.bytesOf (c.headD [])
def okAll (cs : Cs) : Bool := (cs.map PyZn43.whole).all fun c => Zn43Neutral.asked1 (c.headD [])
def LeftAt (sw : R7289g.Spec.World) (left : Nat) (l : List Int) (cs : Cs) : Prop := ∃ f, PyFlat.calls PyZn43.shape f l = some cs ∧ okAll cs = true ∧ Rust.goes sw left (bytesAll cs) = true ∧ (bytesAll cs).all (fun b => Nat.ble b.length Rust.octetsMost) = true ∧ sw.commits.length = 2
theorem left_nil {sw : R7289g.Spec.World} {left : Nat} {cs : Cs} (h : LeftAt sw left [] cs) : cs = [] := by
  obtain ⟨f, h, _⟩ := h
  cases f with
  | zero => cases h; rfl
  | succ f => cases h; rfl
theorem bytes_oi : ∀ {l : List Int}, Zn43Neutral.asked1 l = true → oi (Zn43Neutral.bytesOf l) = l
  | [], _ => rfl
  | x :: l, h => by
    have h : (decide (0 ≤ x) && decide (x ≤ 255) && (NeutralIO.bytes l)) = true := by
      unfold Zn43Neutral.asked1 NeutralIO.bytes at h
      rw [List.all_cons] at h
      exact h
    obtain ⟨h1, h2⟩ := Bool.and_eq_true_iff.mp h
    obtain ⟨h3, h4⟩ := Bool.and_eq_true_iff.mp h1
    have h3 := of_decide_eq_true h3
    have h4 := of_decide_eq_true h4
    have ih := bytes_oi (l := l) h2
    show ((UInt8.ofNat x.toNat).toNat : Int) :: oi (Zn43Neutral.bytesOf l) = x :: l
    rw [ih, Zp.toNat_ofNat]
    congr 1
    omega
theorem flat_call {f : Nat} {p : Int} {r : List Int} {cs : Cs} (h : PyFlat.calls PyZn43.shape f (p :: r) = some cs) : ∃ (n : Nat) (x rest : List Int) (cs' : Cs) (f' : Nat), p = 0 ∧ r = (n : Int) :: (x ++ rest) ∧ x.length = n ∧ cs = [[0], x] :: cs' ∧ PyFlat.calls PyZn43.shape f' rest = some cs' := by
  cases f with
  | zero => cases h
  | succ f =>
    rw [PyFlat.calls] at h
    by_cases hp : p = 0
    · subst hp
      cases r with
      | nil => cases h
      | cons n r' =>
        have hc : PyFlat.call PyZn43.shape (0 :: n :: r') = if 0 ≤ n ∧ n.toNat ≤ r'.length then some ([[0], r'.take n.toNat], r'.drop n.toNat) else none := by
          unfold PyFlat.call
          show (if (n :: r').length < 0 then none else match PyFlat.rows 1 (n :: r') with
            | none => none
            | some (xs, t) => some (([0] : List Int) :: xs, t)) = _
          rw [if_neg (Nat.not_lt_zero _)]
          have e1 : PyFlat.row (n :: r') = if 0 ≤ n ∧ n.toNat ≤ r'.length then some (r'.take n.toNat, r'.drop n.toNat) else none := rfl
          by_cases hn : 0 ≤ n ∧ n.toNat ≤ r'.length
          · rw [if_pos hn] at e1
            rw [if_pos hn]
            simp only [PyFlat.rows, e1]
          · rw [if_neg hn] at e1
            rw [if_neg hn]
            simp only [PyFlat.rows, e1]
        rw [hc] at h
        by_cases hn : 0 ≤ n ∧ n.toNat ≤ r'.length
        · rw [if_pos hn] at h
          simp only at h
          cases hr : PyFlat.calls PyZn43.shape f (r'.drop n.toNat) with
          | none => rw [hr] at h; cases h
          | some cs' =>
            rw [hr] at h
            cases h
            refine ⟨n.toNat, r'.take n.toNat, r'.drop n.toNat, cs', f, rfl, ?_, ?_, rfl, hr⟩
            · rw [List.take_append_drop, Int.toNat_of_nonneg hn.1]
            · rw [List.length_take]; omega
        · rw [if_neg hn] at h
          cases h
    · have hs : PyFlat.call PyZn43.shape (p :: r) = none := by
        have : PyZn43.shape p = none := by unfold PyZn43.shape; rw [if_neg hp]
        simp only [PyFlat.call, this]
      rw [hs] at h
      cases h
theorem tell_cons (sw : R7289g.Spec.World) (x : List Int) (cs : Cs) : tellAll sw ([[0], x] :: cs) = (((Zn43Neutral.step sw x).2.length : Nat) : Int) :: ((Zn43Neutral.step sw x).2 ++ tellAll (Zn43Neutral.step sw x).1 cs) := by
  unfold tellAll PyFlat.told
  rw [List.map_cons, PyFlat.played, List.flatMap_cons]
  rfl
theorem step_len {sw : R7289g.Spec.World} {c : R7289g.Spec.Call} : (R7289g.Spec.step sw c).1.commits.length = sw.commits.length := by
  have on : ∀ p (f : R7289g.Spec.Commit → R7289g.Spec.World × R7289g.Spec.Ans), (∀ cm, (f cm).1.commits.length = sw.commits.length) → (R7289g.Spec.onCommit sw p f).1.commits.length = sw.commits.length := fun p f hf => by
    unfold R7289g.Spec.onCommit
    split
    · exact hf _
    · rfl
  cases c with
  | states x y => rfl
  | records x y z => rfl
  | answers x y z => rfl
  | fates x y => rfl
  | settling x y => rfl
  | start p x y => exact List.length_set
  | startByReplies p x y z => exact List.length_set
  | startWithValue p x y z => exact List.length_set
  | openSends p => exact on p _ fun cm => rfl
  | answerSend p x => exact on p _ fun cm => List.length_set
  | failSend p x => exact on p _ fun cm => List.length_set
  | outcome p => exact on p _ fun cm => rfl
/-- the next call -/
theorem left_cons {sw : R7289g.Spec.World} {left : Nat} {p : Int} {r : List Int} {cs : Cs} (h : LeftAt sw left (p :: r) cs) : ∃ (bs : RWire.Text) (n : Nat) (rest : List Int) (cs' : Cs) (c : R7289g.Spec.Call), r = (n : Int) :: (oi bs ++ rest) ∧ bs.length = n ∧ n ≤ 60000 ∧ Rust.asked bs = some c ∧ R7289g.Spec.within sw c = true ∧ Rust.tellable (R7289g.Spec.step sw c).2 = true ∧
    Rust.step sw bs = ((R7289g.Spec.step sw c).1, RWire.writeAnswer (Rust.answerOf (R7289g.Spec.step sw c).2)) ∧ (RWire.writeAnswer (Rust.answerOf (R7289g.Spec.step sw c).2)).length ≤ 65536 ∧ (RWire.writeAnswer (Rust.answerOf (R7289g.Spec.step sw c).2)).length ≤ left ∧
    LeftAt (R7289g.Spec.step sw c).1 (left - (RWire.writeAnswer (Rust.answerOf (R7289g.Spec.step sw c).2)).length) rest cs' ∧
    tellAll sw cs = (((oi (RWire.writeAnswer (Rust.answerOf (R7289g.Spec.step sw c).2))).length : Nat) : Int) :: (oi (RWire.writeAnswer (Rust.answerOf (R7289g.Spec.step sw c).2)) ++ tellAll (R7289g.Spec.step sw c).1 cs') := by
  obtain ⟨f, hf, hok, hgo, hlen, h2⟩ := h
  obtain ⟨n, x, rest, cs', f', rfl, rfl, hx, rfl, hf'⟩ := flat_call hf
  have hok : (Zn43Neutral.asked1 x && okAll cs') = true := hok
  obtain ⟨hok1, hok2⟩ := Bool.and_eq_true_iff.mp hok
  have hgo : Rust.goes sw left (Zn43Neutral.bytesOf x :: bytesAll cs') = true := hgo
  have hlen : (Nat.ble (Zn43Neutral.bytesOf x).length Rust.octetsMost && (bytesAll cs').all (fun b => Nat.ble b.length Rust.octetsMost)) = true := hlen
  obtain ⟨hl1, hl2⟩ := Bool.and_eq_true_iff.mp hlen
  have hl1 := Nat.le_of_ble_eq_true hl1
  have hxl : (Zn43Neutral.bytesOf x).length = n := by unfold Zn43Neutral.bytesOf; rw [List.length_map, hx]
  rw [Rust.goes] at hgo
  cases ha : Rust.asked (Zn43Neutral.bytesOf x) with
  | none => rw [ha] at hgo; cases hgo
  | some c =>
    rw [ha] at hgo
    simp only at hgo
    obtain ⟨hgo, g5⟩ := Bool.and_eq_true_iff.mp hgo
    obtain ⟨hgo, g4⟩ := Bool.and_eq_true_iff.mp hgo
    obtain ⟨hgo, g3⟩ := Bool.and_eq_true_iff.mp hgo
    obtain ⟨g1, g2⟩ := Bool.and_eq_true_iff.mp hgo
    have hw : R7289g.Spec.within sw c = true := by
      have g1' : (R7289g.Spec.within sw c && true) = true := g1
      rwa [Bool.and_true] at g1'
    have hs : Rust.step sw (Zn43Neutral.bytesOf x) = ((R7289g.Spec.step sw c).1, RWire.writeAnswer (Rust.answerOf (R7289g.Spec.step sw c).2)) := by
      unfold Rust.step
      rw [ha]
      simp only
      rw [if_pos g1]
    have e2 : (Rust.step sw (Zn43Neutral.bytesOf x)).2 = RWire.writeAnswer (Rust.answerOf (R7289g.Spec.step sw c).2) := by rw [hs]
    rw [e2] at g3 g4 g5
    have g3 := Nat.le_of_ble_eq_true g3
    have g4 := Nat.le_of_ble_eq_true g4
    refine ⟨Zn43Neutral.bytesOf x, n, rest, cs', c, by rw [bytes_oi hok1], hxl, by rw [← hxl]; exact hl1, ha, hw, g2, hs, g3, g4, ⟨f', hf', hok2, g5, hl2, by rw [step_len, h2]⟩, ?_⟩
    have hn : Zn43Neutral.step sw x = ((R7289g.Spec.step sw c).1, oi (RWire.writeAnswer (Rust.answerOf (R7289g.Spec.step sw c).2))) := by
      unfold Zn43Neutral.step
      rw [hs]
      rfl
    rw [tell_cons, hn]
end Zr
end
section
set_option maxRecDepth 100000
set_option maxHeartbeats 2000000
/-! The desk: all requests of a list, one after another. -/
namespace Zr
open PySem PySem.Spec PyProof.Rows L2 L2H
open Zp (oi)
section
variable {P : Program} {w : World} {K : PySem.W.Frag} {mg : Str → Option Value} {base : Heap} {a : Adr}
def spAns (K : PySem.W.Frag) : Sp := sp1 fun x H Q E => ∃ (ca : Addr) (ns : List Int), x = .ref ca ∧ SqL K H ca (ns.map V.int) ∧ ns.length ≤ 61000 ∧ PyZn43.answers_asked ns = true ∧ ∀ H' p, H' p = some (.lst ((PyZn43.answers ns).map V.int)) → Q (.ref p) H'
/-- what stood stands as it was, but commits -/
def Bt (a : Adr) (H HH : Hp) : Prop := ∀ b o, (∀ dx fs, o ≠ .ins a.commit dx fs) → H b = some o → HH b = some o
theorem Bt.list {H HH : Hp} {ca : Addr} {xs : List V} (x : Bt a H HH) (h : SqL K H ca xs) : SqL K HH ca xs := by
  rcases h with (h | ⟨o, h⟩) | h
  · exact .inl (.inl (x _ _ (fun _ _ z => by cases z) h))
  · exact .inl (.inr ⟨o, x _ _ (fun _ _ z => by cases z) h⟩)
  · exact .inr h
theorem Bt.step {H HH H1 : Hp} {cl : Addr} (x : Bt a H HH) (h : H cl = none) (y : ∀ b o, b ≠ cl → (∀ dx fs, o ≠ .ins a.commit dx fs) → HH b = some o → H1 b = some o) : Bt a H H1 := fun b o n e => y b o (ne_of_none e h) n (x b o n e)
theorem DkXs.poke {G H : Hp} {d cl fo : Addr} {cs : List (Option R7289g.Spec.Commit)} {xs ys : List V} {zs : List V} (D : DkXs a G H d cl cs xs) (hf : H fo = some (.lst ys)) (hn : fo ≠ cl) : DkXs a G (upd H fo (.lst zs)) d cl cs xs := by
  obtain ⟨dd, ed⟩ := D.de
  have ndl : d ≠ fo := ne_of ed hf (by intro z; cases z)
  refine ⟨⟨dd, by rw [upd_ne ndl]; exact ed⟩, by rw [upd_ne (Ne.symm hn)]; exact D.at_, D.g, D.len, fun i y o h1 h2 => (D.slot i y o h1 h2).keep (Same.refl _) (fun _ _ h => h) fun c e u h => ?_, D.apart⟩
  subst e
  have hs := D.slot i _ _ h1 h2
  rcases hs with ⟨_, h5⟩ | ⟨cm, c', _, h5, _, h7⟩
  · cases h5
  · cases h5
    obtain ⟨dx, fs, e⟩ := cm_ins h7
    rw [upd_ne (ne_of e hf (by intro z; cases z))]
    exact h
/-- behind some requests: sw the state of the specification, acc what is answered -/
structure AnsAt (a : Adr) (K : PySem.W.Frag) (H : Hp) (ns : List Int) (d fo cl : Addr) (i : Nat) (HH : Hp) : Prop where
  ex : ∃ (sw : R7289g.Spec.World) (left : Nat) (cs : Cs) (acc : List Int) (G : Hp), i ≤ ns.length ∧ LeftAt sw left (ns.drop i) cs ∧ acc ++ tellAll sw cs = PyZn43.answers ns ∧ acc.length + left + (ns.length - i) ≤ 4061000 ∧ Same G HH ∧ DkAt a G HH d cl sw.commits ∧ G fo = none ∧ HH fo = some (.lst (acc.map V.int)) ∧ Bt a H HH
theorem asked_left {ns : List Int} (h : PyZn43.answers_asked ns = true) : ∃ cs, LeftAt R7289g.Spec.World.start 4000000 ns cs ∧ tellAll R7289g.Spec.World.start cs = PyZn43.answers ns := by
  unfold PyZn43.answers_asked PyZn43.calls at h
  cases hc : PyFlat.calls PyZn43.shape ns.length ns with
  | none => rw [hc] at h; cases h
  | some cs =>
    rw [hc] at h
    simp only at h
    obtain ⟨h, _⟩ := Bool.and_eq_true_iff.mp h
    obtain ⟨_, h⟩ := Bool.and_eq_true_iff.mp h
    have h : ((((cs.map PyZn43.whole).map fun c => c.headD []).all Zn43Neutral.asked1) && (decide (1 ≤ ((cs.map PyZn43.whole).map fun c => c.headD []).length) && Rust.fits (((cs.map PyZn43.whole).map fun c => c.headD []).map Zn43Neutral.bytesOf))) = true := h
    obtain ⟨h1, h⟩ := Bool.and_eq_true_iff.mp h
    obtain ⟨_, h⟩ := Bool.and_eq_true_iff.mp h
    unfold Rust.fits at h
    obtain ⟨h, h5⟩ := Bool.and_eq_true_iff.mp h
    obtain ⟨h, _⟩ := Bool.and_eq_true_iff.mp h
    obtain ⟨_, h3⟩ := Bool.and_eq_true_iff.mp h
    have e : ((cs.map PyZn43.whole).map fun c => c.headD []).map Zn43Neutral.bytesOf = bytesAll cs := by unfold bytesAll; rw [List.map_map]; rfl
    rw [e] at h3 h5
    refine ⟨cs, ⟨ns.length, hc, ?_, h5, h3, rfl⟩, ?_⟩
    · unfold okAll
      rw [List.all_map] at h1
      exact h1
    · unfold PyZn43.answers PyZn43.calls
      rw [hc]
      rfl
theorem ok_answers {f : Addr} {fd : FuncData} (F : L2.Fun K "answers" "answers" s_answers f fd) (T : Txt K mg a) : FnOk P w K mg base L2.CX0 10 f fd ["calls"] (spAns K) := by
  refine F.ok sc_answers len1 fun cdv A outer s H vs Q E hr h => ?_
  obtain ⟨_, rfl, ca, ns, rfl, hS, hlen, hask, q⟩ := h
  refine ⟨_, (pss_cons (ps_set (i := 1) sc_answers.nd rfl (Or.inl rfl) (pe_mk0 (m_Desk T) hr (by decide) rfl))
    (pss_cons (ps_set (i := 2) sc_answers.nd rfl (Or.inl rfl) (pe_lst pa_nil))
    (pss_cons (ps_set (i := 3) sc_answers.nd rfl (Or.inl rfl) pe_int)
    (pss_cons (ps_while PassesOwn.never (pt_cmpR op_lt (pv 3) (pe_callB call_len_seq rfl T.b_len (by decide +kernel) (pa_cons (pv 0) pa_nil)) (nomark _)) (pss_cons (ps_set (i := 4) sc_answers.nd rfl (Or.inl rfl) (pe_op op_add (pe_op op_add (pv 3) pe_int) (pe_ix ix_list (pv 0) (pe_op op_add (pv 3) pe_int) (fun _ _ => rfl))))
    (pss_cons (ps_set (i := 5) sc_answers.nd rfl (Or.inl rfl) (pe_c (c_answered T) hr (by decide) rfl (pa_cons (pv 1) (pa_cons (pe_slice sl_list (pv 0) (po_some (pe_op op_add (pv 3) pe_int)) (po_some (pv 4))) pa_nil))))
    (pss_cons (ps_set (i := 3) sc_answers.nd rfl (Or.inl rfl) (pv 4))
    (pss_cons (ps_expr (pe_bm PySem.F.plainAttrs_list PySem.F.slot_list_append PySem.F.type_list_append mt_append (pv 2) (pa_cons (pe_callB call_len_seq rfl T.b_len (by decide +kernel) (pa_cons (pv 5) pa_nil)) pa_nil)))
    (pss_one (ps_expr (pe_bm PySem.F.plainAttrs_list PySem.F.slot_list_extend PySem.F.type_list_extend mt_extend (pv 2) (pa_cons (pv 5) pa_nil)))))))))
    (pss_one (ps_ret (pv 2))))))), ?_⟩
  obtain ⟨cs0, hl0, ht0⟩ := asked_left hask
  intro d dx nd ndx hne
  refine ⟨d, dx, rfl, upd_same, fun cl ncl => ⟨rfl, ?_⟩⟩
  obtain ⟨c1, ncl⟩ := upd_none ncl
  obtain ⟨c2, ncl⟩ := upd_none ncl
  have hb : Same H (upd (upd (upd (upd H dx (.own d)) d (.ins a.desk dx [])) cl (.lst [.non, .non])) d (.ins a.desk dx (fDesk (.ref cl)))) := fun b o e => by
    rw [upd_ne (ne_of_none e nd), upd_ne (ne_of_none e ncl), upd_ne (ne_of_none e nd), upd_ne (ne_of_none e ndx)]
    exact e
  have hd : (upd (upd (upd (upd H dx (.own d)) d (.ins a.desk dx [])) cl (.lst [.non, .non])) d (.ins a.desk dx (fDesk (.ref cl)))) d = some (.ins a.desk dx (fDesk (.ref cl))) := upd_same
  have hcl : (upd (upd (upd (upd H dx (.own d)) d (.ins a.desk dx [])) cl (.lst [.non, .non])) d (.ins a.desk dx (fDesk (.ref cl)))) cl = some (.lst [.non, .non]) := by
    rw [upd_ne c1, upd_same]
  generalize (upd (upd (upd (upd H dx (.own d)) d (.ins a.desk dx [])) cl (.lst [.non, .non])) d (.ins a.desk dx (fDesk (.ref cl)))) = H1 at hb hd hcl ⊢
  refine ⟨fit rfl, fun fo nfo => ?_⟩
  have nfH := sm_none hb nfo
  have fcl : fo ≠ cl := fun z => by rw [z, hcl] at nfo; cases nfo
  have s2 : Same H1 (upd H1 fo (.lst [])) := sm_upd nfo
  refine ⟨fun m σ HH => ∃ (i : Nat) (e4 e5 : Option V), m = ns.length - i ∧ σ = [some (.ref ca), some (.ref d), some (.ref fo), some (.int (i : Int)), e4, e5] ∧ AnsAt a K H ns d fo cl i HH,
    ⟨_, 0, none, none, rfl, rfl, ⟨R7289g.Spec.World.start, 4000000, cs0, [], fun _ => none, Nat.zero_le _, hl0, ht0, by simp only [List.length_nil]; omega, (fun _ _ e => by cases e), ⟨[.non, .non], ⟨dx, s2 _ _ hd⟩, s2 _ _ hcl, rfl, rfl, fun j y o h1 h2 => ?_, fun j k c h1 h2 => ?_⟩, rfl, upd_same, fun b o _ e => s2 _ _ (hb b o e)⟩⟩, ?_⟩
  · match j, h1, h2 with
    | 0, h1, h2 => cases h1; cases h2; exact .inl ⟨rfl, rfl⟩
    | 1, h1, h2 => cases h1; cases h2; exact .inl ⟨rfl, rfl⟩
    | j + 2, h1, _ => simp at h1
  · match j, h1 with
    | 0, h1 => cases h1
    | 1, h1 => cases h1
    | j + 2, h1 => simp at h1
  rintro m σ HH ⟨i, e4, e5, rfl, rfl, ⟨sw, left, cs, acc, G, hi, hL, hT, hB, sG, Dk, gfo, hfo, bt⟩⟩
  have hSS := bt.list hS
  refine ⟨_, rfl, _, rfl, ca, _, rfl, .inl hSS, _, _, rfl, rfl, _, rfl, ?_⟩
  rw [List.length_map]
  by_cases hlt : i < ns.length
  · have hd0 : ∃ p r, ns.drop i = p :: r := by
      cases e : ns.drop i with
      | nil => have := congrArg List.length e; rw [List.length_drop] at this; simp at this; omega
      | cons p r => exact ⟨p, r, rfl⟩
    obtain ⟨p, r, hpr⟩ := hd0
    rw [hpr] at hL
    obtain ⟨bs, n, rest, cs', c, rfl, hbn, hn6, hasked, hwin, htell, hstep, hl1, hl2, hL', hT'⟩ := left_cons hL
    refine ifT (decide_eq_true (by omega)) ?_
    have hlen2 : ns.length = i + (2 + n + rest.length) := by
      have := congrArg List.length hpr
      rw [List.length_drop, List.length_cons, List.length_cons, List.length_append, Zp.oi_len] at this
      omega
    have h1 : (ns.map V.int)[i + 1]? = some (.int (n : Int)) := by
      rw [List.getElem?_map]
      have e : ns[i + 1]? = (ns.drop i)[1]? := by rw [List.getElem?_drop]
      rw [e, hpr]
      rfl
    refine ⟨fun σ' H' => ∃ m', m' < ns.length - i ∧ ∃ (i : Nat) (e4 e5 : Option V), m' = ns.length - i ∧ σ' = [some (.ref ca), some (.ref d), some (.ref fo), some (.int (i : Int)), e4, e5] ∧ AnsAt a K H ns d fo cl i H', fun σ' H' h => h, ?_⟩
    refine ⟨_, rfl, _, _, rfl, rfl, _, rfl, _, rfl, _, _, rfl, rfl, ca, _, _, _, rfl, rfl, hSS, atI_nat (j := i + 1) h1, _, _, rfl, rfl, ?_⟩
    refine ⟨_, rfl, _, rfl, _, rfl, _, _, rfl, rfl, _, rfl, _, rfl, _, rfl, ca, _, rfl, hSS, fun lo nlo => ?_⟩
    have hcut : cutV (ns.map V.int) (some ((i : Int) + 2)) (some ((i : Int) + 2 + (n : Int))) = (oi bs).map V.int := by
      have e := cut_mid (xs := ns.map V.int) (lo := i + 2) (hi := i + 2 + n) (by rw [List.length_map]; omega)
      have a1 : ((i + 2 : Nat) : Int) = (i : Int) + 2 := by omega
      have a2 : ((i + 2 + n : Nat) : Int) = (i : Int) + 2 + (n : Int) := by omega
      rw [a1, a2] at e
      have e2 : ns.drop (i + 2) = (ns.drop i).drop 2 := by rw [List.drop_drop]
      have e3 : i + 2 + n - (i + 2) = (oi bs).length := by rw [Zp.oi_len]; omega
      rw [e, ← List.map_drop, ← List.map_take, e2, hpr, e3]
      exact congrArg _ List.take_left
    have hcut' : (upd HH lo (.lst (cutV (ns.map V.int) (some ((i : Int) + 2)) (some ((i : Int) + 2 + (n : Int)))))) = upd HH lo (.lst ((oi bs).map V.int)) := by rw [hcut]
    have x1 : Grow G HH (upd G lo (.lst ((oi bs).map V.int))) (upd HH lo (.lst ((oi bs).map V.int))) := Grow.put sG nlo
    obtain ⟨xs, D0⟩ := Dk
    have h2l : sw.commits.length = 2 := by obtain ⟨_, _, _, _, _, h⟩ := hL; exact h
    have ans := fun (R : Hp → Prop) (z : R (upd HH lo (.lst ((oi bs).map V.int)))) => (show R (upd HH lo (.lst (cutV (ns.map V.int) (some ((i : Int) + 2)) (some ((i : Int) + 2 + (n : Int)))))) from hcut'.symm ▸ z)
    refine ans _ ?_
    refine ⟨_, _, rfl, d, lo, cl, bs, sw, c, _, rfl, rfl, (upd_same : (upd G lo (HO.lst ((oi bs).map V.int))) lo = _), by omega, x1.sub, ⟨xs, D0.grow x1⟩, h2l, hasked, hwin, fun p hp => ?_, fun G' H' o y D' no ho => ?_⟩
    · rw [hp] at hl1
      have e : (RWire.writeAnswer (Rust.answerOf (.ret p))).length = (RWire.write (Rust.given p)).length + 1 := rfl
      omega
    generalize RWire.writeAnswer (Rust.answerOf (R7289g.Spec.step sw c).2) = wa at *
    have z := (GrowD.of (a := a) (cl := cl) x1).trans y
    have ffo : H' fo = some (.lst (acc.map V.int)) := z.but _ _ fcl (fun dx fs z => by cases z) hfo
    have gfo' : G' fo = none := z.new fo gfo (by rw [hfo]; simp)
    have nofo : o ≠ fo := fun e => by
      have := x1.same _ _ hfo
      rw [← e, no] at this
      cases this
    have ocl : o ≠ cl := fun e => by
      have := (D0.grow x1).at_
      rw [← e, no] at this
      cases this
    have hacc : acc.length + 1 + (oi wa).length ≤ sizeLine := by rw [Zp.oi_len, sizeLine_eq]; omega
    refine ⟨_, rfl, ?_⟩
    refine ⟨_, rfl, .inl ⟨rfl, _, SqL.of ffo⟩, _, rfl, o, _, rfl, .inl (SqL.of ho), fo, _, _, rfl, rfl, ffo, by rw [List.length_map]; omega, ?_⟩
    have ho2 : (upd H' fo (.lst (acc.map V.int ++ [.int (((oi wa).map V.int).length : Nat)]))) o = some (.lst ((oi wa).map V.int)) := by rw [upd_ne nofo]; exact ho
    refine ⟨_, rfl, .inl ⟨rfl, _, SqL.of upd_same⟩, _, rfl, fo, o, _, _, rfl, rfl, upd_same, ho2, by rw [List.length_append, List.length_map, List.length_map]; exact hacc, ?_⟩
    have a3 : ((i + 2 + n : Nat) : Int) = (i : Int) + 2 + (n : Int) := by omega
    refine ⟨ns.length - (i + 2 + n), by omega, i + 2 + n, some (.int ((i : Int) + 2 + (n : Int))), some (.ref o), rfl, by rw [a3]; rfl, ⟨⟨(R7289g.Spec.step sw c).1, left - List.length wa, cs', acc ++ (((oi wa).length : Nat) : Int) :: oi wa, G', by omega, ?_, ?_, ?_, ?_, ?_, gfo', ?_, ?_⟩⟩⟩
    · have e2 : ns.drop (i + 2 + n) = ((ns.drop i).drop 2).drop n := by rw [List.drop_drop, List.drop_drop, Nat.add_assoc]
      have e3 : ((p :: (n : Int) :: (oi bs ++ rest)).drop 2).drop n = rest := by
        have e4 : n = (oi bs).length := by rw [Zp.oi_len, hbn]
        show (oi bs ++ rest).drop n = rest
        rw [e4]
        exact List.drop_left
      rw [e2, hpr, e3]
      exact hL'
    · rw [List.append_assoc, List.cons_append, ← hT', hT]
    · rw [List.length_append, List.length_cons, Zp.oi_len]
      omega
    · exact fun b u e => by
        have nb := ne_of_none e gfo'
        rw [upd_ne nb, upd_ne nb]
        exact y.sub b u e
    · obtain ⟨xs', D'⟩ := D'
      exact ⟨xs', (D'.poke ffo fcl).poke upd_same fcl⟩
    · rw [upd_same, List.length_map, List.map_append, List.map_cons, List.append_assoc]
      rfl
    · exact fun b u nc e => by
        have nb := ne_of_none e nfH
        rw [upd_ne nb, upd_ne nb]
        exact (bt.step ncl z.but) b u nc e
  · refine ifF (decide_eq_false (by omega)) ⟨_, rfl, q _ _ ?_⟩
    have e : ns.drop i = [] := List.drop_eq_nil_of_le (by omega)
    rw [e] at hL
    have e2 := left_nil hL
    subst e2
    have e3 : tellAll sw [] = [] := rfl
    rw [e3, List.append_nil] at hT
    rw [hfo, hT]
end
end Zr
end
section
set_option maxRecDepth 100000
set_option maxHeartbeats 2000000
/-! What the top has left, out of single facts of its written part. -/
namespace Zr
open PySem PySem.Spec PyProof.Rows L2 L2H
section
variable {K : PySem.W.Frag}
def RawD (K : PySem.W.Frag) (x : Str) (st : Stmt) : Prop := ∃ (f : Addr) (oc : Value) (od : Option Addr) (kV dc pm : Value) (an : Option Addr) (cd ct : Value) (sl : Array (Option Value)),
  PySem.W.nsIn K mainGlobals x = some (some (.ref f)) ∧ K.lookup f = some ⟨oc, od, .func (PySem.W.fnOf x x (defArgs st) (defBody st) (defScope st) .none kV dc pm an cd ct), sl⟩ ∧ PySem.W.codeIn K cd x = true ∧ PySem.W.keepIn K (.ref f) = true
theorem rawD {x : Str} {st : Stmt} {f : Addr} {oc kV dc pm cd ct : Value} {od an : Option Addr} {sl : Array (Option Value)} (a : PySem.W.nsIn K mainGlobals x = some (some (.ref f)))
    (l : K.lookup f = some ⟨oc, od, .func (PySem.W.fnOf x x (defArgs st) (defBody st) (defScope st) .none kV dc pm an cd ct), sl⟩) (c : PySem.W.codeIn K cd x = true) (k : PySem.W.keepIn K (.ref f) = true) : RawD K x st :=
  ⟨f, oc, od, kV, dc, pm, an, cd, ct, sl, a, l, c, k⟩
theorem RawD.toDef {h : Heap} {mg : Str → Option Value} {x : Str} {st : Stmt} {ps : List Str} (r : RawD K x st) (X : K.In h) (G : h.Ns mainGlobals mg) (hb : ∀ f fd, L2.Fun K x x st f fd → Binds K fd ps []) : DefIn K mg x st ps := by
  obtain ⟨f, oc, od, kV, dc, pm, an, cd, ct, sl, a, l, c, k⟩ := r
  exact ⟨f, _, fun_mk l c k, PySem.W.mg_of X G a, hb _ _ (fun_mk l c k)⟩
structure RawC (K : PySem.W.Frag) (x qual : Str) (st : Stmt) (C : Addr) : Prop where
  g : PySem.W.nsIn K mainGlobals x = some (some (.ref C))
  cl : Cls K C
  ex : ∃ (f : Addr) (fd : FuncData), Mk K C f ∧ L2.Fun K "__init__" qual st f fd
theorem rawC {x qual : Str} {st : Stmt} {C f : Addr} {oc kV dc pm cd ct : Value} {od an : Option Addr} {sl : Array (Option Value)} (a : PySem.W.nsIn K mainGlobals x = some (some (.ref C)))
    (a1 : PySem.W.findIn K (.ref C) "__init__" = some (some (.ref f))) (i1 : PySem.W.isFn K (.ref f) = true)
    (l1 : K.lookup f = some ⟨oc, od, .func (PySem.W.fnOf "__init__" qual (defArgs st) (defBody st) (defScope st) .none kV dc pm an cd ct), sl⟩) (c1 : PySem.W.codeIn K cd qual = true) (k1 : PySem.W.keepIn K (.ref f) = true)
    (pg : PySem.W.plainGet K C Str.empty = true) (hd : PySem.W.hasDictIn K C = true) (po : PySem.W.plainOver K C = true) (sa : PySem.W.findIn K (.ref C) "__setattr__" = some (some (.builtin "object.__setattr__"))) (mk : PySem.W.makesIn K C = true) (kc : PySem.W.keepIn K (.ref C) = true) : RawC K x qual st C :=
  ⟨a, ⟨pg, hd, po, sa⟩, f, _, ⟨mk, a1, i1, kc⟩, fun_mk l1 c1 k1⟩
theorem RawC.toCls {h : Heap} {mg : Str → Option Value} {x qual : Str} {st : Stmt} {ps : List Str} {C : Addr} (r : RawC K x qual st C) (X : K.In h) (G : h.Ns mainGlobals mg) (hb : ∀ f fd, L2.Fun K "__init__" qual st f fd → Binds K fd ps []) : ClsIn K mg x qual st ps C := by
  obtain ⟨g, cl, f, fd, m, F⟩ := r
  exact ⟨cl, PySem.W.mg_of X G g, f, fd, m, F, hb _ _ F⟩
theorem exm_self {S : Addr} (h1 : PySem.W.subIn K (.ref S) (.type "BaseException") = some true) (h2 : PySem.W.isClsIn K S = true) (h3 : PySem.W.typeIn K (.ref S) = some (.type "type")) (h4 : PySem.W.subIn K (.ref S) (.ref S) = some true) :
    PySem.W.exmOne K (.ref S) (.ref S) = some true := by
  have e1 : (PySem.W.subIn K (.ref S) (.type "BaseException") == some true) = true := by rw [h1] <;> rfl
  have e2 : ((PySem.W.clsIn K S).isSome && PySem.W.typeIn K (.ref S) == some (.type "type")) = true := by
    have h2' : (PySem.W.clsIn K S).isSome = true := h2
    rw [h2', h3] <;> rfl
  show (if (PySem.W.subIn K (.ref S) (.type "BaseException") == some true) = true then (if ((PySem.W.clsIn K S).isSome && PySem.W.typeIn K (.ref S) == some (.type "type")) = true then PySem.W.subIn K (.ref S) (.ref S) else none) else none) = some true
  rw [if_pos e1, if_pos e2]
  exact h4
theorem kl_of {C : Addr} (e : PySem.W.subIn K (.ref C) (.type "list") = some false) : PySem.W.kitOne K (.ref C) (.type "list") = some false := by
  have k : PySem.W.kitMeta "list" = true := by decide +kernel
  show (if (Value.ref C == Value.type "list") = true then some true else if PySem.W.kitMeta "list" = true then PySem.W.subIn K (.ref C) (.type "list") else none) = some false
  rw [if_pos k, e]
  rfl
structure RawR (K : PySem.W.Frag) (x qual : Str) (st : Stmt) (C : Addr) : Prop where
  g : PySem.W.nsIn K mainGlobals x = some (some (.ref C))
  o : OexC K C
  xf : XfC K C
  te : PySem.W.exmOne K (.ref C) (.ref C) = some true
  nk : PySem.W.findIn K (.ref C) "kind" = some none
  nm : PySem.W.findIn K (.ref C) "message" = some none
  ex : ∃ (f : Addr) (fd : FuncData), PySem.W.findIn K (.ref C) "__init__" = some (some (.ref f)) ∧ PySem.W.typeIn K (.ref f) = some (.type "function") ∧ L2.Fun K "__init__" qual st f fd
theorem rawR {x qual : Str} {st : Stmt} {C f N : Addr} {n0 q0 : Str} {bs bm : List Value} {sn : List Str} {sub : List Value} {ab : Bool} {col : Option Bool} {dd : Option Addr} {m0 m1 m2 m3 m5 : Option Value} {oc kV dc pm cd ct : Value} {od an : Option Addr} {sl : Array (Option Value)}
    (g : PySem.W.nsIn K mainGlobals x = some (some (.ref C))) (cls : K.lookup C = some (excClassObj n0 q0 C N bs bm true sn sub ab col dd m0 m1 m2 m3 m5 "ValueError.__new__")) (bm' : PySem.HandSPX.refsVE bm = true)
    (sa : PySem.W.findIn K (.ref C) "__setattr__" = some (some (.builtin "object.__setattr__"))) (exC : PySem.W.subIn K (.ref C) (.type "BaseException") = some true) (tyC : PySem.W.typeIn K (.ref C) = some (.type "type")) (kC : PySem.W.keepIn K (.ref C) = true)
    (ga : PySem.W.findIn K (.ref C) "__getattribute__" = some (some (.builtin "BaseException.__getattribute__"))) (gg : PySem.W.findIn K (.ref C) "__getattr__" = some none) (hdC : PySem.W.hasDictIn K C = true) (iC : PySem.W.isClsIn K C = true) (sC : PySem.W.subIn K (.ref C) (.ref C) = some true)
    (nk : PySem.W.findIn K (.ref C) "kind" = some none) (nm : PySem.W.findIn K (.ref C) "message" = some none) (a1 : PySem.W.findIn K (.ref C) "__init__" = some (some (.ref f))) (t1 : PySem.W.typeIn K (.ref f) = some (.type "function"))
    (l1 : K.lookup f = some ⟨oc, od, .func (PySem.W.fnOf "__init__" qual (defArgs st) (defBody st) (defScope st) .none kV dc pm an cd ct), sl⟩) (c1 : PySem.W.codeIn K cd qual = true) (k1 : PySem.W.keepIn K (.ref f) = true) : RawR K x qual st C :=
  ⟨g, ⟨⟨n0, q0, N, bs, bm, sn, sub, ab, col, dd, m0, m1, m2, m3, m5, cls, bm'⟩, sa, exC, tyC, kC⟩, ⟨ga, gg, exC, hdC⟩, exm_self exC iC tyC sC, nk, nm, f, _, a1, t1, fun_mk l1 c1 k1⟩
theorem RawR.toRef {h : Heap} {mg : Str → Option Value} {x qual : Str} {st : Stmt} {C : Addr} (r : RawR K x qual st C) (X : K.In h) (G : h.Ns mainGlobals mg) (hb : ∀ f fd, L2.Fun K "__init__" qual st f fd → Binds K fd ["self", "kind", "message"] []) : RefC K mg x qual st C := by
  obtain ⟨g, o, xf, te, nk, nm, f, fd, a1, t1, F⟩ := r
  exact ⟨PySem.W.mg_of X G g, o, xf, te, nk, nm, f, fd, a1, t1, F, hb _ _ F⟩
def ConI (K : PySem.W.Frag) (x : Str) (i : Int) : Prop := ∃ u, PySem.W.nsIn K mainGlobals x = some (some u) ∧ RelV (.int i) u
def ConS (K : PySem.W.Frag) (x : Str) (y : Str) : Prop := ∃ u, PySem.W.nsIn K mainGlobals x = some (some u) ∧ RelV (.str y) u
theorem conI {x : Str} {i : Int} {t : Tok} (a : PySem.W.nsIn K mainGlobals x = some (some (.int i t))) : ConI K x i := ⟨_, a, t, rfl⟩
theorem conS {x y : Str} {t : Tok} (a : PySem.W.nsIn K mainGlobals x = some (some (.str y t))) : ConS K x y := ⟨_, a, t, rfl⟩
theorem ConI.get {h : Heap} {mg : Str → Option Value} {x : Str} {i : Int} (c : ConI K x i) (X : K.In h) (G : h.Ns mainGlobals mg) : ∃ u, mg x = some u ∧ RelV (.int i) u := ⟨_, PySem.W.mg_of X G c.choose_spec.1, c.choose_spec.2⟩
theorem ConS.get {h : Heap} {mg : Str → Option Value} {x y : Str} (c : ConS K x y) (X : K.In h) (G : h.Ns mainGlobals mg) : ∃ u, mg x = some u ∧ RelV (.str y) u := ⟨_, PySem.W.mg_of X G c.choose_spec.1, c.choose_spec.2⟩
def Kin (K : PySem.W.Frag) : Prop := ∃ (d : Addr) (es : Array DictEntry), PySem.W.nsIn K mainGlobals "KINDS" = some (some (.ref d)) ∧ KInt K d es ∧ (∃ u, findBy Value.isInt es 1 = some u ∧ RelV (.str "TypeError") u) ∧ (∃ u, findBy Value.isInt es 2 = some u ∧ RelV (.str "RangeError") u)
theorem kin {d : Addr} {es : Array DictEntry} {n : Nat} {t1 t2 : Tok} (a : PySem.W.nsIn K mainGlobals "KINDS" = some (some (.ref d))) (l : K.lookup d = some { cls := .type "dict", data := .dict es n }) (i : es.toList.all ieOk = true)
    (u1 : findBy Value.isInt es 1 = some (.str "TypeError" t1)) (u2 : findBy Value.isInt es 2 = some (.str "RangeError" t2)) : Kin K := ⟨d, es, a, ⟨⟨n, l⟩, i⟩, ⟨_, u1, t1, rfl⟩, ⟨_, u2, t2, rfl⟩⟩
theorem Kin.get {h : Heap} {mg : Str → Option Value} (t : Kin K) (X : K.In h) (G : h.Ns mainGlobals mg) : ∃ (d : Addr) (es : Array DictEntry), mg "KINDS" = some (.ref d) ∧ KInt K d es ∧ (∃ u, findBy Value.isInt es 1 = some u ∧ RelV (.str "TypeError") u) ∧ (∃ u, findBy Value.isInt es 2 = some u ∧ RelV (.str "RangeError") u) := by
  obtain ⟨d, es, a, r⟩ := t
  exact ⟨d, es, PySem.W.mg_of X G a, r⟩

theorem bd_PieceInit {f : Addr} {fd : FuncData} (F : L2.Fun K "__init__" "Piece.__init__" s_PieceInit f fd) : Binds K fd ["self", "kind", "content"] [] := F.binds (ps := ["self", "kind", "content"]) fun _ _ _ _ _ _ us hl => match us, hl with | [_, _, _], _ => rfl
theorem bd_ReaderInit {f : Addr} {fd : FuncData} (F : L2.Fun K "__init__" "Reader.__init__" s_ReaderInit f fd) : Binds K fd ["self", "octets"] [] := F.binds (ps := ["self", "octets"]) fun _ _ _ _ _ _ us hl => match us, hl with | [_, _], _ => rfl
theorem bd_nothing {f : Addr} {fd : FuncData} (F : L2.Fun K "nothing" "nothing" s_nothing f fd) : Binds K fd [] [] := F.binds (ps := []) fun _ _ _ _ _ _ us hl => match us, hl with | [], _ => rfl
theorem bd_truth {f : Addr} {fd : FuncData} (F : L2.Fun K "truth" "truth" s_truth f fd) : Binds K fd ["is_so"] [] := F.binds (ps := ["is_so"]) fun _ _ _ _ _ _ us hl => match us, hl with | [_], _ => rfl
theorem bd_number {f : Addr} {fd : FuncData} (F : L2.Fun K "number" "number" s_number f fd) : Binds K fd ["own"] [] := F.binds (ps := ["own"]) fun _ _ _ _ _ _ us hl => match us, hl with | [_], _ => rfl
theorem bd_codes {f : Addr} {fd : FuncData} (F : L2.Fun K "codes" "codes" s_codes f fd) : Binds K fd ["text"] [] := F.binds (ps := ["text"]) fun _ _ _ _ _ _ us hl => match us, hl with | [_], _ => rfl
theorem bd_text {f : Addr} {fd : FuncData} (F : L2.Fun K "text" "text" s_text f fd) : Binds K fd ["plain"] [] := F.binds (ps := ["plain"]) fun _ _ _ _ _ _ us hl => match us, hl with | [_], _ => rfl
theorem bd_row {f : Addr} {fd : FuncData} (F : L2.Fun K "row" "row" s_row f fd) : Binds K fd ["pieces"] [] := F.binds (ps := ["pieces"]) fun _ _ _ _ _ _ us hl => match us, hl with | [_], _ => rfl
theorem bd_record {f : Addr} {fd : FuncData} (F : L2.Fun K "record" "record" s_record f fd) : Binds K fd ["pairs"] [] := F.binds (ps := ["pairs"]) fun _ _ _ _ _ _ us hl => match us, hl with | [_], _ => rfl
theorem bd_is_word {f : Addr} {fd : FuncData} (F : L2.Fun K "is_word" "is_word" s_is_word f fd) : Binds K fd ["piece", "plain"] [] := F.binds (ps := ["piece", "plain"]) fun _ _ _ _ _ _ us hl => match us, hl with | [_, _], _ => rfl
theorem bd_take_octet {f : Addr} {fd : FuncData} (F : L2.Fun K "take_octet" "take_octet" s_take_octet f fd) : Binds K fd ["reader"] [] := F.binds (ps := ["reader"]) fun _ _ _ _ _ _ us hl => match us, hl with | [_], _ => rfl
theorem bd_take_number {f : Addr} {fd : FuncData} (F : L2.Fun K "take_number" "take_number" s_take_number f fd) : Binds K fd ["reader", "many"] [] := F.binds (ps := ["reader", "many"]) fun _ _ _ _ _ _ us hl => match us, hl with | [_, _], _ => rfl
theorem bd_take_octets {f : Addr} {fd : FuncData} (F : L2.Fun K "take_octets" "take_octets" s_take_octets f fd) : Binds K fd ["reader"] [] := F.binds (ps := ["reader"]) fun _ _ _ _ _ _ us hl => match us, hl with | [_], _ => rfl
theorem bd_OpenInit {f : Addr} {fd : FuncData} (F : L2.Fun K "__init__" "Open.__init__" s_OpenInit f fd) : Binds K fd ["self", "kind", "many"] [] := F.binds (ps := ["self", "kind", "many"]) fun _ _ _ _ _ _ us hl => match us, hl with | [_, _, _], _ => rfl
theorem bd_whole_of {f : Addr} {fd : FuncData} (F : L2.Fun K "whole_of" "whole_of" s_whole_of f fd) : Binds K fd ["opened"] [] := F.binds (ps := ["opened"]) fun _ _ _ _ _ _ us hl => match us, hl with | [_], _ => rfl
theorem bd_take_plain {f : Addr} {fd : FuncData} (F : L2.Fun K "take_plain" "take_plain" s_take_plain f fd) : Binds K fd ["reader", "kind"] [] := F.binds (ps := ["reader", "kind"]) fun _ _ _ _ _ _ us hl => match us, hl with | [_, _], _ => rfl
theorem bd_take_piece {f : Addr} {fd : FuncData} (F : L2.Fun K "take_piece" "take_piece" s_take_piece f fd) : Binds K fd ["reader"] [] := F.binds (ps := ["reader"]) fun _ _ _ _ _ _ us hl => match us, hl with | [_], _ => rfl
theorem bd_number_octets {f : Addr} {fd : FuncData} (F : L2.Fun K "number_octets" "number_octets" s_number_octets f fd) : Binds K fd ["own", "many"] [] := F.binds (ps := ["own", "many"]) fun _ _ _ _ _ _ us hl => match us, hl with | [_, _], _ => rfl
theorem bd_counted {f : Addr} {fd : FuncData} (F : L2.Fun K "counted" "counted" s_counted f fd) : Binds K fd ["octets"] [] := F.binds (ps := ["octets"]) fun _ _ _ _ _ _ us hl => match us, hl with | [_], _ => rfl
theorem bd_told {f : Addr} {fd : FuncData} (F : L2.Fun K "told" "told" s_told f fd) : Binds K fd ["piece"] [] := F.binds (ps := ["piece"]) fun _ _ _ _ _ _ us hl => match us, hl with | [_], _ => rfl
theorem bd_RefusedInit {f : Addr} {fd : FuncData} (F : L2.Fun K "__init__" "Refused.__init__" s_RefusedInit f fd) : Binds K fd ["self", "kind", "message"] [] := F.binds (ps := ["self", "kind", "message"]) fun _ _ _ _ _ _ us hl => match us, hl with | [_, _, _], _ => rfl
theorem bd_BatchInit {f : Addr} {fd : FuncData} (F : L2.Fun K "__init__" "Batch.__init__" s_BatchInit f fd) : Binds K fd ["self", "conditions", "writes"] [] := F.binds (ps := ["self", "conditions", "writes"]) fun _ _ _ _ _ _ us hl => match us, hl with | [_, _, _], _ => rfl
theorem bd_EntryInit {f : Addr} {fd : FuncData} (F : L2.Fun K "__init__" "Entry.__init__" s_EntryInit f fd) : Binds K fd ["self", "form", "batch"] [] := F.binds (ps := ["self", "form", "batch"]) fun _ _ _ _ _ _ us hl => match us, hl with | [_, _, _], _ => rfl
theorem bd_need {f : Addr} {fd : FuncData} (F : L2.Fun K "need" "need" s_need f fd) : Binds K fd ["is_right", "message"] [] := F.binds (ps := ["is_right", "message"]) fun _ _ _ _ _ _ us hl => match us, hl with | [_, _], _ => rfl
theorem bd_check {f : Addr} {fd : FuncData} (F : L2.Fun K "check" "check" s_check f fd) : Binds K fd ["is_right", "message"] [] := F.binds (ps := ["is_right", "message"]) fun _ _ _ _ _ _ us hl => match us, hl with | [_, _], _ => rfl
theorem bd_is_number {f : Addr} {fd : FuncData} (F : L2.Fun K "is_number" "is_number" s_is_number f fd) : Binds K fd ["piece", "low", "high"] [] := F.binds (ps := ["piece", "low", "high"]) fun _ _ _ _ _ _ us hl => match us, hl with | [_, _, _], _ => rfl
theorem bd_is_list {f : Addr} {fd : FuncData} (F : L2.Fun K "is_list" "is_list" s_is_list f fd) : Binds K fd ["piece", "low", "high"] [] := F.binds (ps := ["piece", "low", "high"]) fun _ _ _ _ _ _ us hl => match us, hl with | [_, _, _], _ => rfl
theorem bd_pairs_of {f : Addr} {fd : FuncData} (F : L2.Fun K "pairs_of" "pairs_of" s_pairs_of f fd) : Binds K fd ["piece", "low", "keys"] [] := F.binds (ps := ["piece", "low", "keys"]) fun _ _ _ _ _ _ us hl => match us, hl with | [_, _, _], _ => rfl
theorem bd_batch_of {f : Addr} {fd : FuncData} (F : L2.Fun K "batch_of" "batch_of" s_batch_of f fd) : Binds K fd ["piece", "keys"] [] := F.binds (ps := ["piece", "keys"]) fun _ _ _ _ _ _ us hl => match us, hl with | [_, _], _ => rfl
theorem bd_need_batch {f : Addr} {fd : FuncData} (F : L2.Fun K "need_batch" "need_batch" s_need_batch f fd) : Binds K fd ["piece", "keys"] [] := F.binds (ps := ["piece", "keys"]) fun _ _ _ _ _ _ us hl => match us, hl with | [_, _], _ => rfl
theorem bd_read_entry {f : Addr} {fd : FuncData} (F : L2.Fun K "read_entry" "read_entry" s_read_entry f fd) : Binds K fd ["parts", "keys"] [] := F.binds (ps := ["parts", "keys"]) fun _ _ _ _ _ _ us hl => match us, hl with | [_, _], _ => rfl
theorem bd_entry_of {f : Addr} {fd : FuncData} (F : L2.Fun K "entry_of" "entry_of" s_entry_of f fd) : Binds K fd ["piece", "keys"] [] := F.binds (ps := ["piece", "keys"]) fun _ _ _ _ _ _ us hl => match us, hl with | [_, _], _ => rfl
theorem bd_keys_of {f : Addr} {fd : FuncData} (F : L2.Fun K "keys_of" "keys_of" s_keys_of f fd) : Binds K fd ["piece"] [] := F.binds (ps := ["piece"]) fun _ _ _ _ _ _ us hl => match us, hl with | [_], _ => rfl
theorem bd_log_of {f : Addr} {fd : FuncData} (F : L2.Fun K "log_of" "log_of" s_log_of f fd) : Binds K fd ["piece", "keys"] [] := F.binds (ps := ["piece", "keys"]) fun _ _ _ _ _ _ us hl => match us, hl with | [_, _], _ => rfl
theorem bd_key_of {f : Addr} {fd : FuncData} (F : L2.Fun K "key_of" "key_of" s_key_of f fd) : Binds K fd ["piece", "keys"] [] := F.binds (ps := ["piece", "keys"]) fun _ _ _ _ _ _ us hl => match us, hl with | [_, _], _ => rfl
theorem bd_CommitInit {f : Addr} {fd : FuncData} (F : L2.Fun K "__init__" "Commit.__init__" s_CommitInit f fd) : Binds K fd ["self", "most"] [] := F.binds (ps := ["self", "most"]) fun _ _ _ _ _ _ us hl => match us, hl with | [_, _], _ => rfl
theorem bd_reject {f : Addr} {fd : FuncData} (F : L2.Fun K "reject" "reject" s_reject f fd) : Binds K fd ["commit", "kind", "message"] [] := F.binds (ps := ["commit", "kind", "message"]) fun _ _ _ _ _ _ us hl => match us, hl with | [_, _, _], _ => rfl
theorem bd_check_commit {f : Addr} {fd : FuncData} (F : L2.Fun K "check_commit" "check_commit" s_check_commit f fd) : Binds K fd ["batch", "most"] [] := F.binds (ps := ["batch", "most"]) fun _ _ _ _ _ _ us hl => match us, hl with | [_, _], _ => rfl
theorem bd_begun {f : Addr} {fd : FuncData} (F : L2.Fun K "begun" "begun" s_begun f fd) : Binds K fd ["batch", "most"] [] := F.binds (ps := ["batch", "most"]) fun _ _ _ _ _ _ us hl => match us, hl with | [_, _], _ => rfl
theorem bd_does_wait {f : Addr} {fd : FuncData} (F : L2.Fun K "does_wait" "does_wait" s_does_wait f fd) : Binds K fd ["commit"] [] := F.binds (ps := ["commit"]) fun _ _ _ _ _ _ us hl => match us, hl with | [_], _ => rfl
theorem bd_fulfil {f : Addr} {fd : FuncData} (F : L2.Fun K "fulfil" "fulfil" s_fulfil f fd) : Binds K fd ["commit"] [] := F.binds (ps := ["commit"]) fun _ _ _ _ _ _ us hl => match us, hl with | [_], _ => rfl
theorem bd_answer_commit {f : Addr} {fd : FuncData} (F : L2.Fun K "answer_commit" "answer_commit" s_answer_commit f fd) : Binds K fd ["commit", "reply"] [] := F.binds (ps := ["commit", "reply"]) fun _ _ _ _ _ _ us hl => match us, hl with | [_, _], _ => rfl
theorem bd_fail_commit {f : Addr} {fd : FuncData} (F : L2.Fun K "fail_commit" "fail_commit" s_fail_commit f fd) : Binds K fd ["commit", "reason"] [] := F.binds (ps := ["commit", "reason"]) fun _ _ _ _ _ _ us hl => match us, hl with | [_, _], _ => rfl
theorem bd_by_replies {f : Addr} {fd : FuncData} (F : L2.Fun K "by_replies" "by_replies" s_by_replies f fd) : Binds K fd ["commit", "replies"] [] := F.binds (ps := ["commit", "replies"]) fun _ _ _ _ _ _ us hl => match us, hl with | [_, _], _ => rfl
theorem bd_outcome_told {f : Addr} {fd : FuncData} (F : L2.Fun K "outcome_told" "outcome_told" s_outcome_told f fd) : Binds K fd ["commit"] [] := F.binds (ps := ["commit"]) fun _ _ _ _ _ _ us hl => match us, hl with | [_], _ => rfl
theorem bd_does_hold {f : Addr} {fd : FuncData} (F : L2.Fun K "does_hold" "does_hold" s_does_hold f fd) : Binds K fd ["batch", "records"] [] := F.binds (ps := ["batch", "records"]) fun _ _ _ _ _ _ us hl => match us, hl with | [_, _], _ => rfl
theorem bd_written {f : Addr} {fd : FuncData} (F : L2.Fun K "written" "written" s_written f fd) : Binds K fd ["batch", "records"] [] := F.binds (ps := ["batch", "records"]) fun _ _ _ _ _ _ us hl => match us, hl with | [_, _], _ => rfl
theorem bd_arrived {f : Addr} {fd : FuncData} (F : L2.Fun K "arrived" "arrived" s_arrived f fd) : Binds K fd ["log", "world", "place"] [] := F.binds (ps := ["log", "world", "place"]) fun _ _ _ _ _ _ us hl => match us, hl with | [_, _, _], _ => rfl
theorem bd_with_arrivals {f : Addr} {fd : FuncData} (F : L2.Fun K "with_arrivals" "with_arrivals" s_with_arrivals f fd) : Binds K fd ["log", "worlds"] [] := F.binds (ps := ["log", "worlds"]) fun _ _ _ _ _ _ us hl => match us, hl with | [_, _], _ => rfl
theorem bd_behind {f : Addr} {fd : FuncData} (F : L2.Fun K "behind" "behind" s_behind f fd) : Binds K fd ["log", "place", "worlds"] [] := F.binds (ps := ["log", "place", "worlds"]) fun _ _ _ _ _ _ us hl => match us, hl with | [_, _, _], _ => rfl
theorem bd_worlds_of {f : Addr} {fd : FuncData} (F : L2.Fun K "worlds_of" "worlds_of" s_worlds_of f fd) : Binds K fd ["keys", "log"] [] := F.binds (ps := ["keys", "log"]) fun _ _ _ _ _ _ us hl => match us, hl with | [_, _], _ => rfl
theorem bd_may_still {f : Addr} {fd : FuncData} (F : L2.Fun K "may_still" "may_still" s_may_still f fd) : Binds K fd ["log", "world", "place"] [] := F.binds (ps := ["log", "world", "place"]) fun _ _ _ _ _ _ us hl => match us, hl with | [_, _, _], _ => rfl
theorem bd_is_open {f : Addr} {fd : FuncData} (F : L2.Fun K "is_open" "is_open" s_is_open f fd) : Binds K fd ["log", "worlds", "place"] [] := F.binds (ps := ["log", "worlds", "place"]) fun _ _ _ _ _ _ us hl => match us, hl with | [_, _, _], _ => rfl
theorem bd_lost_places {f : Addr} {fd : FuncData} (F : L2.Fun K "lost_places" "lost_places" s_lost_places f fd) : Binds K fd ["log"] [] := F.binds (ps := ["log"]) fun _ _ _ _ _ _ us hl => match us, hl with | [_], _ => rfl
theorem bd_fate_of {f : Addr} {fd : FuncData} (F : L2.Fun K "fate_of" "fate_of" s_fate_of f fd) : Binds K fd ["log", "worlds", "place"] [] := F.binds (ps := ["log", "worlds", "place"]) fun _ _ _ _ _ _ us hl => match us, hl with | [_, _, _], _ => rfl
theorem bd_settling_keys {f : Addr} {fd : FuncData} (F : L2.Fun K "settling_keys" "settling_keys" s_settling_keys f fd) : Binds K fd ["keys", "log", "worlds"] [] := F.binds (ps := ["keys", "log", "worlds"]) fun _ _ _ _ _ _ us hl => match us, hl with | [_, _, _], _ => rfl
theorem bd_DeskInit {f : Addr} {fd : FuncData} (F : L2.Fun K "__init__" "Desk.__init__" s_DeskInit f fd) : Binds K fd ["self"] [] := F.binds (ps := ["self"]) fun _ _ _ _ _ _ us hl => match us, hl with | [_], _ => rfl
theorem bd_QuestionInit {f : Addr} {fd : FuncData} (F : L2.Fun K "__init__" "Question.__init__" s_QuestionInit f fd) : Binds K fd ["self", "given"] [] := F.binds (ps := ["self", "given"]) fun _ _ _ _ _ _ us hl => match us, hl with | [_, _], _ => rfl
theorem bd_record_told {f : Addr} {fd : FuncData} (F : L2.Fun K "record_told" "record_told" s_record_told f fd) : Binds K fd ["record"] [] := F.binds (ps := ["record"]) fun _ _ _ _ _ _ us hl => match us, hl with | [_], _ => rfl
theorem bd_possible_states {f : Addr} {fd : FuncData} (F : L2.Fun K "possible_states" "possible_states" s_possible_states f fd) : Binds K fd ["desk", "given"] [] := F.binds (ps := ["desk", "given"]) fun _ _ _ _ _ _ us hl => match us, hl with | [_, _], _ => rfl
theorem bd_possible_records {f : Addr} {fd : FuncData} (F : L2.Fun K "possible_records" "possible_records" s_possible_records f fd) : Binds K fd ["desk", "given"] [] := F.binds (ps := ["desk", "given"]) fun _ _ _ _ _ _ us hl => match us, hl with | [_, _], _ => rfl
theorem bd_possible_answers {f : Addr} {fd : FuncData} (F : L2.Fun K "possible_answers" "possible_answers" s_possible_answers f fd) : Binds K fd ["desk", "given"] [] := F.binds (ps := ["desk", "given"]) fun _ _ _ _ _ _ us hl => match us, hl with | [_, _], _ => rfl
theorem bd_fates {f : Addr} {fd : FuncData} (F : L2.Fun K "fates" "fates" s_fates f fd) : Binds K fd ["desk", "given"] [] := F.binds (ps := ["desk", "given"]) fun _ _ _ _ _ _ us hl => match us, hl with | [_, _], _ => rfl
theorem bd_settle {f : Addr} {fd : FuncData} (F : L2.Fun K "settle" "settle" s_settle f fd) : Binds K fd ["desk", "given"] [] := F.binds (ps := ["desk", "given"]) fun _ _ _ _ _ _ us hl => match us, hl with | [_, _], _ => rfl
theorem bd_start {f : Addr} {fd : FuncData} (F : L2.Fun K "start" "start" s_start f fd) : Binds K fd ["desk", "given"] [] := F.binds (ps := ["desk", "given"]) fun _ _ _ _ _ _ us hl => match us, hl with | [_, _], _ => rfl
theorem bd_start_by_replies {f : Addr} {fd : FuncData} (F : L2.Fun K "start_by_replies" "start_by_replies" s_start_by_replies f fd) : Binds K fd ["desk", "given"] [] := F.binds (ps := ["desk", "given"]) fun _ _ _ _ _ _ us hl => match us, hl with | [_, _], _ => rfl
theorem bd_start_with_value {f : Addr} {fd : FuncData} (F : L2.Fun K "start_with_value" "start_with_value" s_start_with_value f fd) : Binds K fd ["desk", "given"] [] := F.binds (ps := ["desk", "given"]) fun _ _ _ _ _ _ us hl => match us, hl with | [_, _], _ => rfl
theorem bd_commit_of {f : Addr} {fd : FuncData} (F : L2.Fun K "commit_of" "commit_of" s_commit_of f fd) : Binds K fd ["desk", "given"] [] := F.binds (ps := ["desk", "given"]) fun _ _ _ _ _ _ us hl => match us, hl with | [_, _], _ => rfl
theorem bd_open_sends {f : Addr} {fd : FuncData} (F : L2.Fun K "open_sends" "open_sends" s_open_sends f fd) : Binds K fd ["desk", "given"] [] := F.binds (ps := ["desk", "given"]) fun _ _ _ _ _ _ us hl => match us, hl with | [_, _], _ => rfl
theorem bd_answer_send {f : Addr} {fd : FuncData} (F : L2.Fun K "answer_send" "answer_send" s_answer_send f fd) : Binds K fd ["desk", "given"] [] := F.binds (ps := ["desk", "given"]) fun _ _ _ _ _ _ us hl => match us, hl with | [_, _], _ => rfl
theorem bd_fail_send {f : Addr} {fd : FuncData} (F : L2.Fun K "fail_send" "fail_send" s_fail_send f fd) : Binds K fd ["desk", "given"] [] := F.binds (ps := ["desk", "given"]) fun _ _ _ _ _ _ us hl => match us, hl with | [_, _], _ => rfl
theorem bd_tell_outcome {f : Addr} {fd : FuncData} (F : L2.Fun K "tell_outcome" "tell_outcome" s_tell_outcome f fd) : Binds K fd ["desk", "given"] [] := F.binds (ps := ["desk", "given"]) fun _ _ _ _ _ _ us hl => match us, hl with | [_, _], _ => rfl
theorem bd_answered {f : Addr} {fd : FuncData} (F : L2.Fun K "answered" "answered" s_answered f fd) : Binds K fd ["desk", "octets"] [] := F.binds (ps := ["desk", "octets"]) fun _ _ _ _ _ _ us hl => match us, hl with | [_, _], _ => rfl
theorem bd_answers {f : Addr} {fd : FuncData} (F : L2.Fun K "answers" "answers" s_answers f fd) : Binds K fd ["calls"] [] := F.binds (ps := ["calls"]) fun _ _ _ _ _ _ us hl => match us, hl with | [_], _ => rfl
def Drs (K : PySem.W.Frag) : Prop := ∃ (d : Addr) (es : Array DictEntry), PySem.W.nsIn K mainGlobals "DOORS" = some (some (.ref d)) ∧ KInt K d es ∧ (∃ f, PySem.W.nsIn K mainGlobals "possible_states" = some (some (.ref f)) ∧ findBy Value.isInt es 0 = some (.ref f)) ∧ (∃ f, PySem.W.nsIn K mainGlobals "possible_records" = some (some (.ref f)) ∧ findBy Value.isInt es 1 = some (.ref f)) ∧ (∃ f, PySem.W.nsIn K mainGlobals "possible_answers" = some (some (.ref f)) ∧ findBy Value.isInt es 2 = some (.ref f)) ∧ (∃ f, PySem.W.nsIn K mainGlobals "fates" = some (some (.ref f)) ∧ findBy Value.isInt es 3 = some (.ref f)) ∧ (∃ f, PySem.W.nsIn K mainGlobals "settle" = some (some (.ref f)) ∧ findBy Value.isInt es 4 = some (.ref f)) ∧ (∃ f, PySem.W.nsIn K mainGlobals "start" = some (some (.ref f)) ∧ findBy Value.isInt es 5 = some (.ref f)) ∧ (∃ f, PySem.W.nsIn K mainGlobals "start_by_replies" = some (some (.ref f)) ∧ findBy Value.isInt es 6 = some (.ref f)) ∧ (∃ f, PySem.W.nsIn K mainGlobals "start_with_value" = some (some (.ref f)) ∧ findBy Value.isInt es 7 = some (.ref f)) ∧ (∃ f, PySem.W.nsIn K mainGlobals "open_sends" = some (some (.ref f)) ∧ findBy Value.isInt es 8 = some (.ref f)) ∧ (∃ f, PySem.W.nsIn K mainGlobals "answer_send" = some (some (.ref f)) ∧ findBy Value.isInt es 9 = some (.ref f)) ∧ (∃ f, PySem.W.nsIn K mainGlobals "fail_send" = some (some (.ref f)) ∧ findBy Value.isInt es 10 = some (.ref f)) ∧ (∃ f, PySem.W.nsIn K mainGlobals "tell_outcome" = some (some (.ref f)) ∧ findBy Value.isInt es 11 = some (.ref f))
theorem drs {d : Addr} {es : Array DictEntry} {n : Nat} {f0 f1 f2 f3 f4 f5 f6 f7 f8 f9 f10 f11 : Addr} (a : PySem.W.nsIn K mainGlobals "DOORS" = some (some (.ref d))) (l : K.lookup d = some { cls := .type "dict", data := .dict es n }) (i : es.toList.all ieOk = true)
    (m0 : PySem.W.nsIn K mainGlobals "possible_states" = some (some (.ref f0))) (e0 : findBy Value.isInt es 0 = some (.ref f0))
    (m1 : PySem.W.nsIn K mainGlobals "possible_records" = some (some (.ref f1))) (e1 : findBy Value.isInt es 1 = some (.ref f1))
    (m2 : PySem.W.nsIn K mainGlobals "possible_answers" = some (some (.ref f2))) (e2 : findBy Value.isInt es 2 = some (.ref f2))
    (m3 : PySem.W.nsIn K mainGlobals "fates" = some (some (.ref f3))) (e3 : findBy Value.isInt es 3 = some (.ref f3))
    (m4 : PySem.W.nsIn K mainGlobals "settle" = some (some (.ref f4))) (e4 : findBy Value.isInt es 4 = some (.ref f4))
    (m5 : PySem.W.nsIn K mainGlobals "start" = some (some (.ref f5))) (e5 : findBy Value.isInt es 5 = some (.ref f5))
    (m6 : PySem.W.nsIn K mainGlobals "start_by_replies" = some (some (.ref f6))) (e6 : findBy Value.isInt es 6 = some (.ref f6))
    (m7 : PySem.W.nsIn K mainGlobals "start_with_value" = some (some (.ref f7))) (e7 : findBy Value.isInt es 7 = some (.ref f7))
    (m8 : PySem.W.nsIn K mainGlobals "open_sends" = some (some (.ref f8))) (e8 : findBy Value.isInt es 8 = some (.ref f8))
    (m9 : PySem.W.nsIn K mainGlobals "answer_send" = some (some (.ref f9))) (e9 : findBy Value.isInt es 9 = some (.ref f9))
    (m10 : PySem.W.nsIn K mainGlobals "fail_send" = some (some (.ref f10))) (e10 : findBy Value.isInt es 10 = some (.ref f10))
    (m11 : PySem.W.nsIn K mainGlobals "tell_outcome" = some (some (.ref f11))) (e11 : findBy Value.isInt es 11 = some (.ref f11))
    : Drs K := ⟨d, es, a, ⟨⟨n, l⟩, i⟩, ⟨f0, m0, e0⟩, ⟨f1, m1, e1⟩, ⟨f2, m2, e2⟩, ⟨f3, m3, e3⟩, ⟨f4, m4, e4⟩, ⟨f5, m5, e5⟩, ⟨f6, m6, e6⟩, ⟨f7, m7, e7⟩, ⟨f8, m8, e8⟩, ⟨f9, m9, e9⟩, ⟨f10, m10, e10⟩, ⟨f11, m11, e11⟩⟩
theorem Drs.get {h : Heap} {mg : Str → Option Value} (t : Drs K) (X : K.In h) (G : h.Ns mainGlobals mg) : ∃ (d : Addr) (es : Array DictEntry), mg "DOORS" = some (.ref d) ∧ KInt K d es ∧ (∃ f, mg "possible_states" = some (.ref f) ∧ findBy Value.isInt es 0 = some (.ref f)) ∧ (∃ f, mg "possible_records" = some (.ref f) ∧ findBy Value.isInt es 1 = some (.ref f)) ∧ (∃ f, mg "possible_answers" = some (.ref f) ∧ findBy Value.isInt es 2 = some (.ref f)) ∧ (∃ f, mg "fates" = some (.ref f) ∧ findBy Value.isInt es 3 = some (.ref f)) ∧ (∃ f, mg "settle" = some (.ref f) ∧ findBy Value.isInt es 4 = some (.ref f)) ∧ (∃ f, mg "start" = some (.ref f) ∧ findBy Value.isInt es 5 = some (.ref f)) ∧ (∃ f, mg "start_by_replies" = some (.ref f) ∧ findBy Value.isInt es 6 = some (.ref f)) ∧ (∃ f, mg "start_with_value" = some (.ref f) ∧ findBy Value.isInt es 7 = some (.ref f)) ∧ (∃ f, mg "open_sends" = some (.ref f) ∧ findBy Value.isInt es 8 = some (.ref f)) ∧ (∃ f, mg "answer_send" = some (.ref f) ∧ findBy Value.isInt es 9 = some (.ref f)) ∧ (∃ f, mg "fail_send" = some (.ref f) ∧ findBy Value.isInt es 10 = some (.ref f)) ∧ (∃ f, mg "tell_outcome" = some (.ref f) ∧ findBy Value.isInt es 11 = some (.ref f)) := by
  obtain ⟨d, es, a, k, ⟨f0, m0, e0⟩, ⟨f1, m1, e1⟩, ⟨f2, m2, e2⟩, ⟨f3, m3, e3⟩, ⟨f4, m4, e4⟩, ⟨f5, m5, e5⟩, ⟨f6, m6, e6⟩, ⟨f7, m7, e7⟩, ⟨f8, m8, e8⟩, ⟨f9, m9, e9⟩, ⟨f10, m10, e10⟩, ⟨f11, m11, e11⟩⟩ := t
  exact ⟨d, es, PySem.W.mg_of X G a, k, ⟨f0, PySem.W.mg_of X G m0, e0⟩, ⟨f1, PySem.W.mg_of X G m1, e1⟩, ⟨f2, PySem.W.mg_of X G m2, e2⟩, ⟨f3, PySem.W.mg_of X G m3, e3⟩, ⟨f4, PySem.W.mg_of X G m4, e4⟩, ⟨f5, PySem.W.mg_of X G m5, e5⟩, ⟨f6, PySem.W.mg_of X G m6, e6⟩, ⟨f7, PySem.W.mg_of X G m7, e7⟩, ⟨f8, PySem.W.mg_of X G m8, e8⟩, ⟨f9, PySem.W.mg_of X G m9, e9⟩, ⟨f10, PySem.W.mg_of X G m10, e10⟩, ⟨f11, PySem.W.mg_of X G m11, e11⟩⟩
theorem all_end {P : Program} {w : World} {h : Heap} {mg : Str → Option Value} {fa f3 : Addr} (X : K.In h) (G : h.Ns mainGlobals mg) (hfa : mg "answers" = some (.ref fa))
    {piece reader opened batch entry commit desk quest refused : Addr} {od3 an3 : Option Addr} {sl3 : Array (Option Value)} {oc3 kV3 dc3 pm3 cd3 ct3 : Value}
    (r_Piece : RawC K "Piece" "Piece.__init__" s_PieceInit piece)
    (m_Piece_kind : PySem.W.findIn K (.ref piece) "kind" = some none)
    (m_Piece_content : PySem.W.findIn K (.ref piece) "content" = some none)
    (r_Reader : RawC K "Reader" "Reader.__init__" s_ReaderInit reader)
    (m_Reader_octets : PySem.W.findIn K (.ref reader) "octets" = some none)
    (m_Reader_at : PySem.W.findIn K (.ref reader) "at" = some none)
    (r_nothing : RawD K "nothing" s_nothing)
    (r_truth : RawD K "truth" s_truth)
    (r_number : RawD K "number" s_number)
    (r_codes : RawD K "codes" s_codes)
    (r_text : RawD K "text" s_text)
    (r_row : RawD K "row" s_row)
    (r_record : RawD K "record" s_record)
    (r_is_word : RawD K "is_word" s_is_word)
    (r_take_octet : RawD K "take_octet" s_take_octet)
    (r_take_number : RawD K "take_number" s_take_number)
    (r_take_octets : RawD K "take_octets" s_take_octets)
    (r_Open : RawC K "Open" "Open.__init__" s_OpenInit opened)
    (m_Open_kind : PySem.W.findIn K (.ref opened) "kind" = some none)
    (m_Open_many : PySem.W.findIn K (.ref opened) "many" = some none)
    (m_Open_members : PySem.W.findIn K (.ref opened) "members" = some none)
    (m_Open_names : PySem.W.findIn K (.ref opened) "names" = some none)
    (r_whole_of : RawD K "whole_of" s_whole_of)
    (r_take_plain : RawD K "take_plain" s_take_plain)
    (r_take_piece : RawD K "take_piece" s_take_piece)
    (r_number_octets : RawD K "number_octets" s_number_octets)
    (r_counted : RawD K "counted" s_counted)
    (r_told : RawD K "told" s_told)
    (r_Batch : RawC K "Batch" "Batch.__init__" s_BatchInit batch)
    (m_Batch_conditions : PySem.W.findIn K (.ref batch) "conditions" = some none)
    (m_Batch_writes : PySem.W.findIn K (.ref batch) "writes" = some none)
    (r_Entry : RawC K "Entry" "Entry.__init__" s_EntryInit entry)
    (m_Entry_form : PySem.W.findIn K (.ref entry) "form" = some none)
    (m_Entry_batch : PySem.W.findIn K (.ref entry) "batch" = some none)
    (m_Entry_effect : PySem.W.findIn K (.ref entry) "effect" = some none)
    (m_Entry_key : PySem.W.findIn K (.ref entry) "key" = some none)
    (m_Entry_record : PySem.W.findIn K (.ref entry) "record" = some none)
    (r_need : RawD K "need" s_need)
    (r_check : RawD K "check" s_check)
    (r_is_number : RawD K "is_number" s_is_number)
    (r_is_list : RawD K "is_list" s_is_list)
    (r_pairs_of : RawD K "pairs_of" s_pairs_of)
    (r_batch_of : RawD K "batch_of" s_batch_of)
    (r_need_batch : RawD K "need_batch" s_need_batch)
    (r_read_entry : RawD K "read_entry" s_read_entry)
    (r_entry_of : RawD K "entry_of" s_entry_of)
    (r_keys_of : RawD K "keys_of" s_keys_of)
    (r_log_of : RawD K "log_of" s_log_of)
    (r_key_of : RawD K "key_of" s_key_of)
    (r_Commit : RawC K "Commit" "Commit.__init__" s_CommitInit commit)
    (m_Commit_most : PySem.W.findIn K (.ref commit) "most" = some none)
    (m_Commit_attempt : PySem.W.findIn K (.ref commit) "attempt" = some none)
    (m_Commit_lost : PySem.W.findIn K (.ref commit) "lost" = some none)
    (m_Commit_outcome : PySem.W.findIn K (.ref commit) "outcome" = some none)
    (r_reject : RawD K "reject" s_reject)
    (r_check_commit : RawD K "check_commit" s_check_commit)
    (r_begun : RawD K "begun" s_begun)
    (r_does_wait : RawD K "does_wait" s_does_wait)
    (r_fulfil : RawD K "fulfil" s_fulfil)
    (r_answer_commit : RawD K "answer_commit" s_answer_commit)
    (r_fail_commit : RawD K "fail_commit" s_fail_commit)
    (r_by_replies : RawD K "by_replies" s_by_replies)
    (r_outcome_told : RawD K "outcome_told" s_outcome_told)
    (r_does_hold : RawD K "does_hold" s_does_hold)
    (r_written : RawD K "written" s_written)
    (r_arrived : RawD K "arrived" s_arrived)
    (r_with_arrivals : RawD K "with_arrivals" s_with_arrivals)
    (r_behind : RawD K "behind" s_behind)
    (r_worlds_of : RawD K "worlds_of" s_worlds_of)
    (r_may_still : RawD K "may_still" s_may_still)
    (r_is_open : RawD K "is_open" s_is_open)
    (r_lost_places : RawD K "lost_places" s_lost_places)
    (r_fate_of : RawD K "fate_of" s_fate_of)
    (r_settling_keys : RawD K "settling_keys" s_settling_keys)
    (r_Desk : RawC K "Desk" "Desk.__init__" s_DeskInit desk)
    (m_Desk_commits : PySem.W.findIn K (.ref desk) "commits" = some none)
    (r_Question : RawC K "Question" "Question.__init__" s_QuestionInit quest)
    (m_Question_many : PySem.W.findIn K (.ref quest) "many" = some none)
    (m_Question_log : PySem.W.findIn K (.ref quest) "log" = some none)
    (m_Question_worlds : PySem.W.findIn K (.ref quest) "worlds" = some none)
    (r_record_told : RawD K "record_told" s_record_told)
    (r_possible_states : RawD K "possible_states" s_possible_states)
    (r_possible_records : RawD K "possible_records" s_possible_records)
    (r_possible_answers : RawD K "possible_answers" s_possible_answers)
    (r_fates : RawD K "fates" s_fates)
    (r_settle : RawD K "settle" s_settle)
    (r_start : RawD K "start" s_start)
    (r_start_by_replies : RawD K "start_by_replies" s_start_by_replies)
    (r_start_with_value : RawD K "start_with_value" s_start_with_value)
    (r_commit_of : RawD K "commit_of" s_commit_of)
    (r_open_sends : RawD K "open_sends" s_open_sends)
    (r_answer_send : RawD K "answer_send" s_answer_send)
    (r_fail_send : RawD K "fail_send" s_fail_send)
    (r_tell_outcome : RawD K "tell_outcome" s_tell_outcome)
    (r_answered : RawD K "answered" s_answered)
    (r_Refused : RawR K "Refused" "Refused.__init__" s_RefusedInit refused)
    (l_a : PySem.W.findIn K (.ref piece) "__class__" = some (some (.builtin "object.__class__")))
    (l_n : PySem.W.specialIn K (.builtin "object.__class__") "__get__" = some (some (.builtin "getset_descriptor.__get__")))
    (l_t : PySem.W.takesIn K (.builtin "object.__class__") = some true)
    (l_m : PySem.W.mroIn K piece (.type "object") = some true)
    (l_k : PySem.W.subIn K (.ref piece) (.type "list") = some false)
    (k_NOTHING : ConI K "NOTHING" 0)
    (k_NULL : ConI K "NULL" 1)
    (k_FALSE : ConI K "FALSE" 2)
    (k_TRUE : ConI K "TRUE" 3)
    (k_INTEGER : ConI K "INTEGER" 4)
    (k_TEXT : ConI K "TEXT" 6)
    (k_LIST : ConI K "LIST" 7)
    (k_RECORD : ConI K "RECORD" 8)
    (k_MOST_KEYS : ConI K "MOST_KEYS" 4)
    (k_MOST_NUMBER : ConI K "MOST_NUMBER" 100)
    (k_MOST_ENTRIES : ConI K "MOST_ENTRIES" 8)
    (k_MOST_LOST : ConI K "MOST_LOST" 5)
    (k_LOST : ConS K "LOST" "lost")
    (k_ANSWERED : ConS K "ANSWERED" "answered")
    (k_READ : ConS K "READ" "read")
    (k_MOST_ATTEMPTS : ConI K "MOST_ATTEMPTS" 10)
    (k_MOST_ARGUMENTS : ConI K "MOST_ARGUMENTS" 4)
    (b_ord : PySem.W.nsIn K mainGlobals "ord" = some none)
    (b_range : PySem.W.nsIn K mainGlobals "range" = some none)
    (b_list : PySem.W.nsIn K mainGlobals "list" = some none)
    (b_len : PySem.W.nsIn K mainGlobals "len" = some none)
    (b_set : PySem.W.nsIn K mainGlobals "set" = some none)
    (b_sorted : PySem.W.nsIn K mainGlobals "sorted" = some none)
    (b_tuple : PySem.W.nsIn K mainGlobals "tuple" = some none)
    (b_dict : PySem.W.nsIn K mainGlobals "dict" = some none)
    (b_all : PySem.W.nsIn K mainGlobals "all" = some none)
    (b_any : PySem.W.nsIn K mainGlobals "any" = some none)
    (b_enumerate : PySem.W.nsIn K mainGlobals "enumerate" = some none)
    (b_zip : PySem.W.nsIn K mainGlobals "zip" = some none)
    (b_isinstance : PySem.W.nsIn K mainGlobals "isinstance" = some none)
    (t_kinds : Kin K)
    (t_doors : Drs K)
    (a3 : PySem.W.nsIn K mainGlobals "answers" = some (some (.ref f3))) (l3 : K.lookup f3 = some ⟨oc3, od3, .func (PySem.W.fnOf "answers" "answers" (defArgs s_answers) (defBody s_answers) (defScope s_answers) .none kV3 dc3 pm3 an3 cd3 ct3), sl3⟩) (c3 : PySem.W.codeIn K cd3 "answers" = true) (k3 : PySem.W.keepIn K (.ref f3) = true) :
    ∃ fd : FuncData, (∀ (s : Shared) (us : List Value), us.length = (["calls"] : List Str).length → BindsTo s fd ⟨us, []⟩ ((["calls"] : List Str).zip us)) ∧ ∀ base : Heap, K.In base → base.Ns mainGlobals mg → FnOk P w K mg base L2.CX0 10 fa fd ["calls"] (spAns K) := by
  have e := hfa.symm.trans (PySem.W.mg_of X G a3)
  cases e
  have T : Txt K mg ⟨piece, reader, opened, batch, entry, commit, desk, quest, refused⟩ := {
    d_answers := ⟨fa, _, fun_mk l3 c3 k3, hfa, bd_answers (fun_mk l3 c3 k3)⟩
    c_Piece := (r_Piece).toCls X G fun _ _ => bd_PieceInit
    n_Piece_kind := m_Piece_kind
    n_Piece_content := m_Piece_content
    c_Reader := (r_Reader).toCls X G fun _ _ => bd_ReaderInit
    n_Reader_octets := m_Reader_octets
    n_Reader_at := m_Reader_at
    d_nothing := (r_nothing).toDef X G fun _ _ => bd_nothing
    d_truth := (r_truth).toDef X G fun _ _ => bd_truth
    d_number := (r_number).toDef X G fun _ _ => bd_number
    d_codes := (r_codes).toDef X G fun _ _ => bd_codes
    d_text := (r_text).toDef X G fun _ _ => bd_text
    d_row := (r_row).toDef X G fun _ _ => bd_row
    d_record := (r_record).toDef X G fun _ _ => bd_record
    d_is_word := (r_is_word).toDef X G fun _ _ => bd_is_word
    d_take_octet := (r_take_octet).toDef X G fun _ _ => bd_take_octet
    d_take_number := (r_take_number).toDef X G fun _ _ => bd_take_number
    d_take_octets := (r_take_octets).toDef X G fun _ _ => bd_take_octets
    c_Open := (r_Open).toCls X G fun _ _ => bd_OpenInit
    n_Open_kind := m_Open_kind
    n_Open_many := m_Open_many
    n_Open_members := m_Open_members
    n_Open_names := m_Open_names
    d_whole_of := (r_whole_of).toDef X G fun _ _ => bd_whole_of
    d_take_plain := (r_take_plain).toDef X G fun _ _ => bd_take_plain
    d_take_piece := (r_take_piece).toDef X G fun _ _ => bd_take_piece
    d_number_octets := (r_number_octets).toDef X G fun _ _ => bd_number_octets
    d_counted := (r_counted).toDef X G fun _ _ => bd_counted
    d_told := (r_told).toDef X G fun _ _ => bd_told
    c_Batch := (r_Batch).toCls X G fun _ _ => bd_BatchInit
    n_Batch_conditions := m_Batch_conditions
    n_Batch_writes := m_Batch_writes
    c_Entry := (r_Entry).toCls X G fun _ _ => bd_EntryInit
    n_Entry_form := m_Entry_form
    n_Entry_batch := m_Entry_batch
    n_Entry_effect := m_Entry_effect
    n_Entry_key := m_Entry_key
    n_Entry_record := m_Entry_record
    d_need := (r_need).toDef X G fun _ _ => bd_need
    d_check := (r_check).toDef X G fun _ _ => bd_check
    d_is_number := (r_is_number).toDef X G fun _ _ => bd_is_number
    d_is_list := (r_is_list).toDef X G fun _ _ => bd_is_list
    d_pairs_of := (r_pairs_of).toDef X G fun _ _ => bd_pairs_of
    d_batch_of := (r_batch_of).toDef X G fun _ _ => bd_batch_of
    d_need_batch := (r_need_batch).toDef X G fun _ _ => bd_need_batch
    d_read_entry := (r_read_entry).toDef X G fun _ _ => bd_read_entry
    d_entry_of := (r_entry_of).toDef X G fun _ _ => bd_entry_of
    d_keys_of := (r_keys_of).toDef X G fun _ _ => bd_keys_of
    d_log_of := (r_log_of).toDef X G fun _ _ => bd_log_of
    d_key_of := (r_key_of).toDef X G fun _ _ => bd_key_of
    c_Commit := (r_Commit).toCls X G fun _ _ => bd_CommitInit
    n_Commit_most := m_Commit_most
    n_Commit_attempt := m_Commit_attempt
    n_Commit_lost := m_Commit_lost
    n_Commit_outcome := m_Commit_outcome
    d_reject := (r_reject).toDef X G fun _ _ => bd_reject
    d_check_commit := (r_check_commit).toDef X G fun _ _ => bd_check_commit
    d_begun := (r_begun).toDef X G fun _ _ => bd_begun
    d_does_wait := (r_does_wait).toDef X G fun _ _ => bd_does_wait
    d_fulfil := (r_fulfil).toDef X G fun _ _ => bd_fulfil
    d_answer_commit := (r_answer_commit).toDef X G fun _ _ => bd_answer_commit
    d_fail_commit := (r_fail_commit).toDef X G fun _ _ => bd_fail_commit
    d_by_replies := (r_by_replies).toDef X G fun _ _ => bd_by_replies
    d_outcome_told := (r_outcome_told).toDef X G fun _ _ => bd_outcome_told
    d_does_hold := (r_does_hold).toDef X G fun _ _ => bd_does_hold
    d_written := (r_written).toDef X G fun _ _ => bd_written
    d_arrived := (r_arrived).toDef X G fun _ _ => bd_arrived
    d_with_arrivals := (r_with_arrivals).toDef X G fun _ _ => bd_with_arrivals
    d_behind := (r_behind).toDef X G fun _ _ => bd_behind
    d_worlds_of := (r_worlds_of).toDef X G fun _ _ => bd_worlds_of
    d_may_still := (r_may_still).toDef X G fun _ _ => bd_may_still
    d_is_open := (r_is_open).toDef X G fun _ _ => bd_is_open
    d_lost_places := (r_lost_places).toDef X G fun _ _ => bd_lost_places
    d_fate_of := (r_fate_of).toDef X G fun _ _ => bd_fate_of
    d_settling_keys := (r_settling_keys).toDef X G fun _ _ => bd_settling_keys
    c_Desk := (r_Desk).toCls X G fun _ _ => bd_DeskInit
    n_Desk_commits := m_Desk_commits
    c_Question := (r_Question).toCls X G fun _ _ => bd_QuestionInit
    n_Question_many := m_Question_many
    n_Question_log := m_Question_log
    n_Question_worlds := m_Question_worlds
    d_record_told := (r_record_told).toDef X G fun _ _ => bd_record_told
    d_possible_states := (r_possible_states).toDef X G fun _ _ => bd_possible_states
    d_possible_records := (r_possible_records).toDef X G fun _ _ => bd_possible_records
    d_possible_answers := (r_possible_answers).toDef X G fun _ _ => bd_possible_answers
    d_fates := (r_fates).toDef X G fun _ _ => bd_fates
    d_settle := (r_settle).toDef X G fun _ _ => bd_settle
    d_start := (r_start).toDef X G fun _ _ => bd_start
    d_start_by_replies := (r_start_by_replies).toDef X G fun _ _ => bd_start_by_replies
    d_start_with_value := (r_start_with_value).toDef X G fun _ _ => bd_start_with_value
    d_commit_of := (r_commit_of).toDef X G fun _ _ => bd_commit_of
    d_open_sends := (r_open_sends).toDef X G fun _ _ => bd_open_sends
    d_answer_send := (r_answer_send).toDef X G fun _ _ => bd_answer_send
    d_fail_send := (r_fail_send).toDef X G fun _ _ => bd_fail_send
    d_tell_outcome := (r_tell_outcome).toDef X G fun _ _ => bd_tell_outcome
    d_answered := (r_answered).toDef X G fun _ _ => bd_answered
    refC := (r_Refused).toRef X G fun _ _ => bd_RefusedInit
    nl := ⟨l_a, l_n, l_t, l_m, kl_of l_k⟩
    k_NOTHING := (k_NOTHING).get X G
    k_NULL := (k_NULL).get X G
    k_FALSE := (k_FALSE).get X G
    k_TRUE := (k_TRUE).get X G
    k_INTEGER := (k_INTEGER).get X G
    k_TEXT := (k_TEXT).get X G
    k_LIST := (k_LIST).get X G
    k_RECORD := (k_RECORD).get X G
    k_MOST_KEYS := (k_MOST_KEYS).get X G
    k_MOST_NUMBER := (k_MOST_NUMBER).get X G
    k_MOST_ENTRIES := (k_MOST_ENTRIES).get X G
    k_MOST_LOST := (k_MOST_LOST).get X G
    k_LOST := (k_LOST).get X G
    k_ANSWERED := (k_ANSWERED).get X G
    k_READ := (k_READ).get X G
    k_MOST_ATTEMPTS := (k_MOST_ATTEMPTS).get X G
    k_MOST_ARGUMENTS := (k_MOST_ARGUMENTS).get X G
    b_ord := PySem.W.mg_none_of X G b_ord
    b_range := PySem.W.mg_none_of X G b_range
    b_list := PySem.W.mg_none_of X G b_list
    b_len := PySem.W.mg_none_of X G b_len
    b_set := PySem.W.mg_none_of X G b_set
    b_sorted := PySem.W.mg_none_of X G b_sorted
    b_tuple := PySem.W.mg_none_of X G b_tuple
    b_dict := PySem.W.mg_none_of X G b_dict
    b_all := PySem.W.mg_none_of X G b_all
    b_any := PySem.W.mg_none_of X G b_any
    b_enumerate := PySem.W.mg_none_of X G b_enumerate
    b_zip := PySem.W.mg_none_of X G b_zip
    b_isinstance := PySem.W.mg_none_of X G b_isinstance
    kinds := t_kinds.get X G
    doors := t_doors.get X G
  }
  exact ⟨PySem.W.fnOf "answers" "answers" (defArgs s_answers) (defBody s_answers) (defScope s_answers) .none kV3 dc3 pm3 an3 cd3 ct3, fun s us hu => match us, hu with | [_], _ => .of_eq rfl, fun base _ _ => ok_answers (fun_mk l3 c3 k3) T⟩
end
end Zr
end
open PySem PySem.W PyProof.Rows
set_option maxRecDepth 100000 in
set_option maxHeartbeats 0 in
theorem PySem.Challenge.cw_lostrequests_s01_answers_holds : PySem.Challenge.rw_lostrequests_s01_answers.Holds := by
  w_on; k_headS; (case hw => exact ⟨[.list [.int 0, .int 10, .int 0, .int 0, .int 2, .int 6, .int 1, .int 0, .int 0, .int 0, .int 49, .int 1]], by decide +kernel, by decide +kernel⟩)
  k_fillS
  refine L2.walk_specK (r := PySem.Challenge.rw_lostrequests_s01_answers) (k := 10) (CX := L2.CX0) (ps := ["calls"]) (sp := Zr.spAns) (by decide +kernel) rfl rfl ⟨rfl, by decide, by decide⟩ (fun w h Y => PySem.W.kIn_of Y) ?F ?S (fun _ _ _ _ z => z)
  case F =>
    intro w mg fa h Y KX G hmg
    refine' Zr.all_end KX G hmg ?r_Piece ?m_Piece_kind ?m_Piece_content ?r_Reader ?m_Reader_octets ?m_Reader_at ?r_nothing ?r_truth ?r_number ?r_codes ?r_text ?r_row ?r_record ?r_is_word ?r_take_octet ?r_take_number ?r_take_octets ?r_Open ?m_Open_kind ?m_Open_many ?m_Open_members ?m_Open_names ?r_whole_of ?r_take_plain ?r_take_piece ?r_number_octets ?r_counted ?r_told ?r_Batch ?m_Batch_conditions ?m_Batch_writes ?r_Entry ?m_Entry_form ?m_Entry_batch ?m_Entry_effect ?m_Entry_key ?m_Entry_record ?r_need ?r_check ?r_is_number ?r_is_list ?r_pairs_of ?r_batch_of ?r_need_batch ?r_read_entry ?r_entry_of ?r_keys_of ?r_log_of ?r_key_of ?r_Commit ?m_Commit_most ?m_Commit_attempt ?m_Commit_lost ?m_Commit_outcome ?r_reject ?r_check_commit ?r_begun ?r_does_wait ?r_fulfil ?r_answer_commit ?r_fail_commit ?r_by_replies ?r_outcome_told ?r_does_hold ?r_written ?r_arrived ?r_with_arrivals ?r_behind ?r_worlds_of ?r_may_still ?r_is_open ?r_lost_places ?r_fate_of ?r_settling_keys ?r_Desk ?m_Desk_commits ?r_Question ?m_Question_many ?m_Question_log ?m_Question_worlds ?r_record_told ?r_possible_states ?r_possible_records ?r_possible_answers ?r_fates ?r_settle ?r_start ?r_start_by_replies ?r_start_with_value ?r_commit_of ?r_open_sends ?r_answer_send ?r_fail_send ?r_tell_outcome ?r_answered ?r_Refused ?l_a ?l_n ?l_t ?l_m ?l_k ?k_NOTHING ?k_NULL ?k_FALSE ?k_TRUE ?k_INTEGER ?k_TEXT ?k_LIST ?k_RECORD ?k_MOST_KEYS ?k_MOST_NUMBER ?k_MOST_ENTRIES ?k_MOST_LOST ?k_LOST ?k_ANSWERED ?k_READ ?k_MOST_ATTEMPTS ?k_MOST_ARGUMENTS ?b_ord ?b_range ?b_list ?b_len ?b_set ?b_sorted ?b_tuple ?b_dict ?b_all ?b_any ?b_enumerate ?b_zip ?b_isinstance ?t_kinds ?t_doors ?a3 ?l3 ?c3 ?k3
    (case r_Piece => refine' Zr.rawC ?a ?a1 ?i1 ?l1 ?c1 ?k1 ?pg ?hd ?po ?sa ?mk ?kc; (case a => k_is); (case a1 => k_is); (case i1 => k_is); (case l1 => k_is); (case c1 => k_is); (case k1 => k_is); (case pg => k_is); (case hd => k_is); (case po => k_is); (case sa => k_is); (case mk => k_is); (case kc => k_is))
    (case m_Piece_kind => k_is)
    (case m_Piece_content => k_is)
    (case r_Reader => refine' Zr.rawC ?a ?a1 ?i1 ?l1 ?c1 ?k1 ?pg ?hd ?po ?sa ?mk ?kc; (case a => k_is); (case a1 => k_is); (case i1 => k_is); (case l1 => k_is); (case c1 => k_is); (case k1 => k_is); (case pg => k_is); (case hd => k_is); (case po => k_is); (case sa => k_is); (case mk => k_is); (case kc => k_is))
    (case m_Reader_octets => k_is)
    (case m_Reader_at => k_is)
    (case r_nothing => refine' Zr.rawD ?a ?l ?c ?k; (case a => k_is); (case l => k_is); (case c => k_is); (case k => k_is))
    (case r_truth => refine' Zr.rawD ?a ?l ?c ?k; (case a => k_is); (case l => k_is); (case c => k_is); (case k => k_is))
    (case r_number => refine' Zr.rawD ?a ?l ?c ?k; (case a => k_is); (case l => k_is); (case c => k_is); (case k => k_is))
    (case r_codes => refine' Zr.rawD ?a ?l ?c ?k; (case a => k_is); (case l => k_is); (case c => k_is); (case k => k_is))
    (case r_text => refine' Zr.rawD ?a ?l ?c ?k; (case a => k_is); (case l => k_is); (case c => k_is); (case k => k_is))
    (case r_row => refine' Zr.rawD ?a ?l ?c ?k; (case a => k_is); (case l => k_is); (case c => k_is); (case k => k_is))
    (case r_record => refine' Zr.rawD ?a ?l ?c ?k; (case a => k_is); (case l => k_is); (case c => k_is); (case k => k_is))
    (case r_is_word => refine' Zr.rawD ?a ?l ?c ?k; (case a => k_is); (case l => k_is); (case c => k_is); (case k => k_is))
    (case r_take_octet => refine' Zr.rawD ?a ?l ?c ?k; (case a => k_is); (case l => k_is); (case c => k_is); (case k => k_is))
    (case r_take_number => refine' Zr.rawD ?a ?l ?c ?k; (case a => k_is); (case l => k_is); (case c => k_is); (case k => k_is))
    (case r_take_octets => refine' Zr.rawD ?a ?l ?c ?k; (case a => k_is); (case l => k_is); (case c => k_is); (case k => k_is))
    (case r_Open => refine' Zr.rawC ?a ?a1 ?i1 ?l1 ?c1 ?k1 ?pg ?hd ?po ?sa ?mk ?kc; (case a => k_is); (case a1 => k_is); (case i1 => k_is); (case l1 => k_is); (case c1 => k_is); (case k1 => k_is); (case pg => k_is); (case hd => k_is); (case po => k_is); (case sa => k_is); (case mk => k_is); (case kc => k_is))
    (case m_Open_kind => k_is)
    (case m_Open_many => k_is)
    (case m_Open_members => k_is)
    (case m_Open_names => k_is)
    (case r_whole_of => refine' Zr.rawD ?a ?l ?c ?k; (case a => k_is); (case l => k_is); (case c => k_is); (case k => k_is))
    (case r_take_plain => refine' Zr.rawD ?a ?l ?c ?k; (case a => k_is); (case l => k_is); (case c => k_is); (case k => k_is))
    (case r_take_piece => refine' Zr.rawD ?a ?l ?c ?k; (case a => k_is); (case l => k_is); (case c => k_is); (case k => k_is))
    (case r_number_octets => refine' Zr.rawD ?a ?l ?c ?k; (case a => k_is); (case l => k_is); (case c => k_is); (case k => k_is))
    (case r_counted => refine' Zr.rawD ?a ?l ?c ?k; (case a => k_is); (case l => k_is); (case c => k_is); (case k => k_is))
    (case r_told => refine' Zr.rawD ?a ?l ?c ?k; (case a => k_is); (case l => k_is); (case c => k_is); (case k => k_is))
    (case r_Batch => refine' Zr.rawC ?a ?a1 ?i1 ?l1 ?c1 ?k1 ?pg ?hd ?po ?sa ?mk ?kc; (case a => k_is); (case a1 => k_is); (case i1 => k_is); (case l1 => k_is); (case c1 => k_is); (case k1 => k_is); (case pg => k_is); (case hd => k_is); (case po => k_is); (case sa => k_is); (case mk => k_is); (case kc => k_is))
    (case m_Batch_conditions => k_is)
    (case m_Batch_writes => k_is)
    (case r_Entry => refine' Zr.rawC ?a ?a1 ?i1 ?l1 ?c1 ?k1 ?pg ?hd ?po ?sa ?mk ?kc; (case a => k_is); (case a1 => k_is); (case i1 => k_is); (case l1 => k_is); (case c1 => k_is); (case k1 => k_is); (case pg => k_is); (case hd => k_is); (case po => k_is); (case sa => k_is); (case mk => k_is); (case kc => k_is))
    (case m_Entry_form => k_is)
    (case m_Entry_batch => k_is)
    (case m_Entry_effect => k_is)
    (case m_Entry_key => k_is)
    (case m_Entry_record => k_is)
    (case r_need => refine' Zr.rawD ?a ?l ?c ?k; (case a => k_is); (case l => k_is); (case c => k_is); (case k => k_is))
    (case r_check => refine' Zr.rawD ?a ?l ?c ?k; (case a => k_is); (case l => k_is); (case c => k_is); (case k => k_is))
    (case r_is_number => refine' Zr.rawD ?a ?l ?c ?k; (case a => k_is); (case l => k_is); (case c => k_is); (case k => k_is))
    (case r_is_list => refine' Zr.rawD ?a ?l ?c ?k; (case a => k_is); (case l => k_is); (case c => k_is); (case k => k_is))
    (case r_pairs_of => refine' Zr.rawD ?a ?l ?c ?k; (case a => k_is); (case l => k_is); (case c => k_is); (case k => k_is))
    (case r_batch_of => refine' Zr.rawD ?a ?l ?c ?k; (case a => k_is); (case l => k_is); (case c => k_is); (case k => k_is))
    (case r_need_batch => refine' Zr.rawD ?a ?l ?c ?k; (case a => k_is); (case l => k_is); (case c => k_is); (case k => k_is))
    (case r_read_entry => refine' Zr.rawD ?a ?l ?c ?k; (case a => k_is); (case l => k_is); (case c => k_is); (case k => k_is))
    (case r_entry_of => refine' Zr.rawD ?a ?l ?c ?k; (case a => k_is); (case l => k_is); (case c => k_is); (case k => k_is))
    (case r_keys_of => refine' Zr.rawD ?a ?l ?c ?k; (case a => k_is); (case l => k_is); (case c => k_is); (case k => k_is))
    (case r_log_of => refine' Zr.rawD ?a ?l ?c ?k; (case a => k_is); (case l => k_is); (case c => k_is); (case k => k_is))
    (case r_key_of => refine' Zr.rawD ?a ?l ?c ?k; (case a => k_is); (case l => k_is); (case c => k_is); (case k => k_is))
    (case r_Commit => refine' Zr.rawC ?a ?a1 ?i1 ?l1 ?c1 ?k1 ?pg ?hd ?po ?sa ?mk ?kc; (case a => k_is); (case a1 => k_is); (case i1 => k_is); (case l1 => k_is); (case c1 => k_is); (case k1 => k_is); (case pg => k_is); (case hd => k_is); (case po => k_is); (case sa => k_is); (case mk => k_is); (case kc => k_is))
    (case m_Commit_most => k_is)
    (case m_Commit_attempt => k_is)
    (case m_Commit_lost => k_is)
    (case m_Commit_outcome => k_is)
    (case r_reject => refine' Zr.rawD ?a ?l ?c ?k; (case a => k_is); (case l => k_is); (case c => k_is); (case k => k_is))
    (case r_check_commit => refine' Zr.rawD ?a ?l ?c ?k; (case a => k_is); (case l => k_is); (case c => k_is); (case k => k_is))
    (case r_begun => refine' Zr.rawD ?a ?l ?c ?k; (case a => k_is); (case l => k_is); (case c => k_is); (case k => k_is))
    (case r_does_wait => refine' Zr.rawD ?a ?l ?c ?k; (case a => k_is); (case l => k_is); (case c => k_is); (case k => k_is))
    (case r_fulfil => refine' Zr.rawD ?a ?l ?c ?k; (case a => k_is); (case l => k_is); (case c => k_is); (case k => k_is))
    (case r_answer_commit => refine' Zr.rawD ?a ?l ?c ?k; (case a => k_is); (case l => k_is); (case c => k_is); (case k => k_is))
    (case r_fail_commit => refine' Zr.rawD ?a ?l ?c ?k; (case a => k_is); (case l => k_is); (case c => k_is); (case k => k_is))
    (case r_by_replies => refine' Zr.rawD ?a ?l ?c ?k; (case a => k_is); (case l => k_is); (case c => k_is); (case k => k_is))
    (case r_outcome_told => refine' Zr.rawD ?a ?l ?c ?k; (case a => k_is); (case l => k_is); (case c => k_is); (case k => k_is))
    (case r_does_hold => refine' Zr.rawD ?a ?l ?c ?k; (case a => k_is); (case l => k_is); (case c => k_is); (case k => k_is))
    (case r_written => refine' Zr.rawD ?a ?l ?c ?k; (case a => k_is); (case l => k_is); (case c => k_is); (case k => k_is))
    (case r_arrived => refine' Zr.rawD ?a ?l ?c ?k; (case a => k_is); (case l => k_is); (case c => k_is); (case k => k_is))
    (case r_with_arrivals => refine' Zr.rawD ?a ?l ?c ?k; (case a => k_is); (case l => k_is); (case c => k_is); (case k => k_is))
    (case r_behind => refine' Zr.rawD ?a ?l ?c ?k; (case a => k_is); (case l => k_is); (case c => k_is); (case k => k_is))
    (case r_worlds_of => refine' Zr.rawD ?a ?l ?c ?k; (case a => k_is); (case l => k_is); (case c => k_is); (case k => k_is))
    (case r_may_still => refine' Zr.rawD ?a ?l ?c ?k; (case a => k_is); (case l => k_is); (case c => k_is); (case k => k_is))
    (case r_is_open => refine' Zr.rawD ?a ?l ?c ?k; (case a => k_is); (case l => k_is); (case c => k_is); (case k => k_is))
    (case r_lost_places => refine' Zr.rawD ?a ?l ?c ?k; (case a => k_is); (case l => k_is); (case c => k_is); (case k => k_is))
    (case r_fate_of => refine' Zr.rawD ?a ?l ?c ?k; (case a => k_is); (case l => k_is); (case c => k_is); (case k => k_is))
    (case r_settling_keys => refine' Zr.rawD ?a ?l ?c ?k; (case a => k_is); (case l => k_is); (case c => k_is); (case k => k_is))
    (case r_Desk => refine' Zr.rawC ?a ?a1 ?i1 ?l1 ?c1 ?k1 ?pg ?hd ?po ?sa ?mk ?kc; (case a => k_is); (case a1 => k_is); (case i1 => k_is); (case l1 => k_is); (case c1 => k_is); (case k1 => k_is); (case pg => k_is); (case hd => k_is); (case po => k_is); (case sa => k_is); (case mk => k_is); (case kc => k_is))
    (case m_Desk_commits => k_is)
    (case r_Question => refine' Zr.rawC ?a ?a1 ?i1 ?l1 ?c1 ?k1 ?pg ?hd ?po ?sa ?mk ?kc; (case a => k_is); (case a1 => k_is); (case i1 => k_is); (case l1 => k_is); (case c1 => k_is); (case k1 => k_is); (case pg => k_is); (case hd => k_is); (case po => k_is); (case sa => k_is); (case mk => k_is); (case kc => k_is))
    (case m_Question_many => k_is)
    (case m_Question_log => k_is)
    (case m_Question_worlds => k_is)
    (case r_record_told => refine' Zr.rawD ?a ?l ?c ?k; (case a => k_is); (case l => k_is); (case c => k_is); (case k => k_is))
    (case r_possible_states => refine' Zr.rawD ?a ?l ?c ?k; (case a => k_is); (case l => k_is); (case c => k_is); (case k => k_is))
    (case r_possible_records => refine' Zr.rawD ?a ?l ?c ?k; (case a => k_is); (case l => k_is); (case c => k_is); (case k => k_is))
    (case r_possible_answers => refine' Zr.rawD ?a ?l ?c ?k; (case a => k_is); (case l => k_is); (case c => k_is); (case k => k_is))
    (case r_fates => refine' Zr.rawD ?a ?l ?c ?k; (case a => k_is); (case l => k_is); (case c => k_is); (case k => k_is))
    (case r_settle => refine' Zr.rawD ?a ?l ?c ?k; (case a => k_is); (case l => k_is); (case c => k_is); (case k => k_is))
    (case r_start => refine' Zr.rawD ?a ?l ?c ?k; (case a => k_is); (case l => k_is); (case c => k_is); (case k => k_is))
    (case r_start_by_replies => refine' Zr.rawD ?a ?l ?c ?k; (case a => k_is); (case l => k_is); (case c => k_is); (case k => k_is))
    (case r_start_with_value => refine' Zr.rawD ?a ?l ?c ?k; (case a => k_is); (case l => k_is); (case c => k_is); (case k => k_is))
    (case r_commit_of => refine' Zr.rawD ?a ?l ?c ?k; (case a => k_is); (case l => k_is); (case c => k_is); (case k => k_is))
    (case r_open_sends => refine' Zr.rawD ?a ?l ?c ?k; (case a => k_is); (case l => k_is); (case c => k_is); (case k => k_is))
    (case r_answer_send => refine' Zr.rawD ?a ?l ?c ?k; (case a => k_is); (case l => k_is); (case c => k_is); (case k => k_is))
    (case r_fail_send => refine' Zr.rawD ?a ?l ?c ?k; (case a => k_is); (case l => k_is); (case c => k_is); (case k => k_is))
    (case r_tell_outcome => refine' Zr.rawD ?a ?l ?c ?k; (case a => k_is); (case l => k_is); (case c => k_is); (case k => k_is))
    (case r_answered => refine' Zr.rawD ?a ?l ?c ?k; (case a => k_is); (case l => k_is); (case c => k_is); (case k => k_is))
    (case r_Refused => refine' Zr.rawR ?g ?cls ?bm ?sa ?exC ?tyC ?kC ?ga ?gg ?hdC ?iC ?sC ?nk ?nm ?a1 ?t1 ?l1 ?c1 ?k1; (case g => k_is); (case cls => k_is); (case bm => decide +kernel); (case sa => k_is); (case exC => k_is); (case tyC => k_is); (case kC => k_is); (case ga => k_is); (case gg => k_is); (case hdC => k_is); (case iC => k_is); (case sC => first | rfl | k_is); (case nk => k_is); (case nm => k_is); (case a1 => k_is); (case t1 => k_is); (case l1 => k_is); (case c1 => k_is); (case k1 => k_is))
    (case l_a => k_is)
    (case l_n => k_is)
    (case l_t => k_is)
    (case l_m => k_is)
    (case l_k => k_is)
    (case k_NOTHING => refine' Zr.conI ?a; (case a => k_is))
    (case k_NULL => refine' Zr.conI ?a; (case a => k_is))
    (case k_FALSE => refine' Zr.conI ?a; (case a => k_is))
    (case k_TRUE => refine' Zr.conI ?a; (case a => k_is))
    (case k_INTEGER => refine' Zr.conI ?a; (case a => k_is))
    (case k_TEXT => refine' Zr.conI ?a; (case a => k_is))
    (case k_LIST => refine' Zr.conI ?a; (case a => k_is))
    (case k_RECORD => refine' Zr.conI ?a; (case a => k_is))
    (case k_MOST_KEYS => refine' Zr.conI ?a; (case a => k_is))
    (case k_MOST_NUMBER => refine' Zr.conI ?a; (case a => k_is))
    (case k_MOST_ENTRIES => refine' Zr.conI ?a; (case a => k_is))
    (case k_MOST_LOST => refine' Zr.conI ?a; (case a => k_is))
    (case k_LOST => refine' Zr.conS ?a; (case a => k_is))
    (case k_ANSWERED => refine' Zr.conS ?a; (case a => k_is))
    (case k_READ => refine' Zr.conS ?a; (case a => k_is))
    (case k_MOST_ATTEMPTS => refine' Zr.conI ?a; (case a => k_is))
    (case k_MOST_ARGUMENTS => refine' Zr.conI ?a; (case a => k_is))
    (case b_ord => k_is)
    (case b_range => k_is)
    (case b_list => k_is)
    (case b_len => k_is)
    (case b_set => k_is)
    (case b_sorted => k_is)
    (case b_tuple => k_is)
    (case b_dict => k_is)
    (case b_all => k_is)
    (case b_any => k_is)
    (case b_enumerate => k_is)
    (case b_zip => k_is)
    (case b_isinstance => k_is)
    (case t_kinds => refine' Zr.kin ?a ?l ?i ?u1 ?u2; (case a => k_is); (case l => k_is); (case i => decide +kernel); (case u1 => rfl); (case u2 => rfl))
    (case t_doors => refine' Zr.drs ?a ?l ?i ?m0 ?e0 ?m1 ?e1 ?m2 ?e2 ?m3 ?e3 ?m4 ?e4 ?m5 ?e5 ?m6 ?e6 ?m7 ?e7 ?m8 ?e8 ?m9 ?e9 ?m10 ?e10 ?m11 ?e11; (case a => k_is); (case l => k_is); (case i => decide +kernel); (case m0 => k_is); (case e0 => rfl); (case m1 => k_is); (case e1 => rfl); (case m2 => k_is); (case e2 => rfl); (case m3 => k_is); (case e3 => rfl); (case m4 => k_is); (case e4 => rfl); (case m5 => k_is); (case e5 => rfl); (case m6 => k_is); (case e6 => rfl); (case m7 => k_is); (case e7 => rfl); (case m8 => k_is); (case e8 => rfl); (case m9 => k_is); (case e9 => rfl); (case m10 => k_is); (case e10 => rfl); (case m11 => k_is); (case e11 => rfl))
    (case a3 => k_is); (case l3 => k_is); (case c3 => k_is); (case k3 => k_is)
  case S =>
    intro K H xs a hO hwi hask hx
    cases hx with
    | cons h1 h2 =>
      cases h2
      cases h1 with
      | lst hs ha =>
        have e := L2.ints_dw a.1 _ ha
        subst e
        have q : ((Codec.inLen 0 61000 a.1 && a.1.all (Codec.inInt 0 65535)) && true) = true := hwi
        rw [Bool.and_eq_true, Bool.and_eq_true] at q
        exact ⟨_, rfl, _, a.1, rfl, hs, (Codec.inNat_iff.mp q.1.1).2, hask, fun H' p hp => .lst (L2.SqL.of hp) (L2.dw_ints _)⟩
#print axioms PySem.Challenge.cw_lostrequests_s01_answers_holds
