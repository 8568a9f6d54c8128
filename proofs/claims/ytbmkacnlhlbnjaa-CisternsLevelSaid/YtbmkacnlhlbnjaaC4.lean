/-
  Part of proofs about cisterns, beside goroutines that are only leaving. No condition.
-/
import Derived.Test.YtbmkacnlhlbnjaaC2
import Derived.Test.YtbmkacnlhlbnjaaProg
import Derived.KernelRfl
import Derived.Test.YtbmkacnlhlbnjaaChecked
import Derived.Conc.WgLib
namespace Go.Proofs.Ytbmkacnlhlbnjaa
open Go.X

theorem mixed : Try.prog.follows .mixedOrders = true := by kernel_rfl
theorem tA3 : aggT Try.prog 3 = some false := by kernel_rfl
theorem tS3 : sizeT Try.prog 3 = some 1 := by kernel_rfl
theorem tZ3 : zeroT Try.prog 3 = some (.int .i64 0) := by kernel_rfl
theorem tA4 : aggT Try.prog 4 = some false := by kernel_rfl
theorem tS4 : sizeT Try.prog 4 = some 1 := by kernel_rfl
theorem tZ4 : zeroT Try.prog 4 = some (.bool false) := by kernel_rfl
theorem tA22 : aggT Try.prog 22 = some false := by kernel_rfl
theorem tS22 : sizeT Try.prog 22 = some 1 := by kernel_rfl
theorem tA24 : aggT Try.prog 24 = some true := by kernel_rfl
theorem tS24 : sizeT Try.prog 24 = some 3 := by kernel_rfl
theorem tZ24 : zeroT Try.prog 24 = some (.agg #[.int .i64 0, .int .i64 0, .slice none 0 0]) := by kernel_rfl
theorem tP24 : placesT Try.prog 24 = some [(0, 1), (1, 1), (2, 1)] := by kernel_rfl
theorem tF24_0 : fieldT Try.prog 24 0 = some (0, 1) := by kernel_rfl
theorem tF24_1 : fieldT Try.prog 24 1 = some (1, 1) := by kernel_rfl
theorem tF24_2 : fieldT Try.prog 24 2 = some (2, 1) := by kernel_rfl
theorem tA25 : aggT Try.prog 25 = some false := by kernel_rfl
theorem tS25 : sizeT Try.prog 25 = some 1 := by kernel_rfl
theorem tZ25 : zeroT Try.prog 25 = some (.slice none 0 0) := by kernel_rfl
theorem tA30 : aggT Try.prog 30 = some true := by kernel_rfl
theorem tS30 : sizeT Try.prog 30 = some 3 := by kernel_rfl
theorem tZ30 : zeroT Try.prog 30 = some (.agg #[.slice none 0 0, .slice none 0 0, .slice none 0 0]) := by kernel_rfl
theorem tF30_0 : fieldT Try.prog 30 0 = some (0, 1) := by kernel_rfl
theorem tF30_1 : fieldT Try.prog 30 1 = some (1, 1) := by kernel_rfl
theorem tF30_2 : fieldT Try.prog 30 2 = some (2, 1) := by kernel_rfl
theorem tA36 : aggT Try.prog 36 = some true := by kernel_rfl
theorem tS36 : sizeT Try.prog 36 = some 2 := by kernel_rfl
theorem tZ36 : zeroT Try.prog 36 = some (.agg #[.int .i64 0, .int .i64 0]) := by kernel_rfl
theorem tP36 : placesT Try.prog 36 = some [(0, 1), (1, 1)] := by kernel_rfl
theorem tF36_0 : fieldT Try.prog 36 0 = some (0, 1) := by kernel_rfl
theorem tF36_1 : fieldT Try.prog 36 1 = some (1, 1) := by kernel_rfl
theorem tA38 : aggT Try.prog 38 = some true := by kernel_rfl
theorem tS38 : sizeT Try.prog 38 = some 3 := by kernel_rfl
theorem tZ38 : zeroT Try.prog 38 = some (.agg #[.int .i64 0, .int .i64 0, .int .i64 0]) := by kernel_rfl
theorem tP38 : placesT Try.prog 38 = some [(0, 2), (2, 1)] := by kernel_rfl
theorem tF38_0 : fieldT Try.prog 38 0 = some (0, 2) := by kernel_rfl
theorem tF38_1 : fieldT Try.prog 38 1 = some (2, 1) := by kernel_rfl
theorem tA68 : aggT Try.prog 68 = some false := by kernel_rfl
theorem tS68 : sizeT Try.prog 68 = some 1 := by kernel_rfl
theorem tZ68 : zeroT Try.prog 68 = some (.slice none 0 0) := by kernel_rfl
theorem tA72 : aggT Try.prog 72 = some true := by kernel_rfl
theorem tS72 : sizeT Try.prog 72 = some 3 := by kernel_rfl
theorem tZ72 : zeroT Try.prog 72 = some (.agg #[.int .i64 0, .int .i64 0, .int .i64 0]) := by kernel_rfl
theorem tP72 : placesT Try.prog 72 = some [(0, 1), (1, 1), (2, 1)] := by kernel_rfl
theorem tF72_0 : fieldT Try.prog 72 0 = some (0, 1) := by kernel_rfl
theorem tF72_1 : fieldT Try.prog 72 1 = some (1, 1) := by kernel_rfl
theorem tF72_2 : fieldT Try.prog 72 2 = some (2, 1) := by kernel_rfl
theorem tA77 : aggT Try.prog 77 = some false := by kernel_rfl
theorem tZ99 : zeroT Try.prog 99 = some (.agg #[.int .u64 0, .int .u32 0]) := by kernel_rfl
theorem tA100 : aggT Try.prog 100 = some false := by kernel_rfl
theorem tA101 : aggT Try.prog 101 = some true := by kernel_rfl
theorem tS101 : sizeT Try.prog 101 = some 2 := by kernel_rfl
theorem tZ101 : zeroT Try.prog 101 = some (.agg #[.pointer none, .nilFunc]) := by kernel_rfl
theorem tP101 : placesT Try.prog 101 = some [(0, 1), (1, 1)] := by kernel_rfl
theorem tF101_0 : fieldT Try.prog 101 0 = some (0, 1) := by kernel_rfl
theorem tF101_1 : fieldT Try.prog 101 1 = some (1, 1) := by kernel_rfl
theorem tS107 : sizeT Try.prog 107 = some 2 := by kernel_rfl
theorem tZ107 : zeroT Try.prog 107 = some (.agg #[.int .i64 0, .int .i64 0]) := by kernel_rfl
theorem tP107 : placesT Try.prog 107 = some [(0, 1), (1, 1)] := by kernel_rfl
theorem tF107_0 : fieldT Try.prog 107 0 = some (0, 1) := by kernel_rfl
theorem tF107_1 : fieldT Try.prog 107 1 = some (1, 1) := by kernel_rfl
theorem tB3 : bytesT Try.prog 3 = some 8 := by kernel_rfl
theorem tB25 : bytesT Try.prog 25 = some 24 := by kernel_rfl
theorem tB30 : bytesT Try.prog 30 = some 72 := by kernel_rfl
theorem tB38 : bytesT Try.prog 38 = some 24 := by kernel_rfl
theorem tB72 : bytesT Try.prog 72 = some 24 := by kernel_rfl
theorem fC18 : callable Try.prog 18 = true := by kernel_rfl
theorem fC20 : callable Try.prog 20 = true := by kernel_rfl
theorem fC22 : callable Try.prog 22 = true := by kernel_rfl
theorem fC23 : callable Try.prog 23 = true := by kernel_rfl
theorem fC26 : callable Try.prog 26 = true := by kernel_rfl
theorem fC27 : callable Try.prog 27 = true := by kernel_rfl
theorem fC28 : callable Try.prog 28 = true := by kernel_rfl
theorem fC30 : callable Try.prog 30 = true := by kernel_rfl
theorem fC32 : callable Try.prog 32 = true := by kernel_rfl
theorem fC33 : callable Try.prog 33 = true := by kernel_rfl
theorem fC34 : callable Try.prog 34 = true := by kernel_rfl
theorem fC36 : callable Try.prog 36 = true := by kernel_rfl
theorem fC37 : callable Try.prog 37 = true := by kernel_rfl
theorem fC39 : callable Try.prog 39 = true := by kernel_rfl
theorem fC40 : callable Try.prog 40 = true := by kernel_rfl
theorem fC41 : callable Try.prog 41 = true := by kernel_rfl
theorem fC42 : callable Try.prog 42 = true := by kernel_rfl
theorem fC43 : callable Try.prog 43 = true := by kernel_rfl
theorem fC44 : callable Try.prog 44 = true := by kernel_rfl
theorem fC45 : callable Try.prog 45 = true := by kernel_rfl
theorem fC55 : callable Try.prog 55 = true := by kernel_rfl
theorem fC60 : callable Try.prog 60 = true := by kernel_rfl
theorem fC61 : callable Try.prog 61 = true := by kernel_rfl
theorem fC62 : callable Try.prog 62 = true := by kernel_rfl
theorem fC63 : callable Try.prog 63 = true := by kernel_rfl
theorem fC64 : callable Try.prog 64 = true := by kernel_rfl
theorem fC65 : callable Try.prog 65 = true := by kernel_rfl
theorem fC66 : callable Try.prog 66 = true := by kernel_rfl
theorem fC67 : callable Try.prog 67 = true := by kernel_rfl
theorem fC68 : callable Try.prog 68 = true := by kernel_rfl
theorem fC69 : callable Try.prog 69 = true := by kernel_rfl
theorem fC70 : callable Try.prog 70 = true := by kernel_rfl
theorem fC71 : callable Try.prog 71 = true := by kernel_rfl
theorem fC72 : callable Try.prog 72 = true := by kernel_rfl
theorem fC73 : callable Try.prog 73 = true := by kernel_rfl
theorem fC74 : callable Try.prog 74 = true := by kernel_rfl
theorem fC75 : callable Try.prog 75 = true := by kernel_rfl
theorem fC77 : callable Try.prog 77 = true := by kernel_rfl
theorem fC78 : callable Try.prog 78 = true := by kernel_rfl
theorem fC81 : callable Try.prog 81 = true := by kernel_rfl
theorem fC83 : callable Try.prog 83 = true := by kernel_rfl
theorem fC84 : callable Try.prog 84 = true := by kernel_rfl
theorem fC85 : callable Try.prog 85 = true := by kernel_rfl
theorem fC86 : callable Try.prog 86 = true := by kernel_rfl
theorem fC87 : callable Try.prog 87 = true := by kernel_rfl
theorem fC88 : callable Try.prog 88 = true := by kernel_rfl
theorem fC89 : callable Try.prog 89 = true := by kernel_rfl
theorem fC94 : callable Try.prog 94 = true := by kernel_rfl
theorem fC95 : callable Try.prog 95 = true := by kernel_rfl
theorem fC96 : callable Try.prog 96 = true := by kernel_rfl
theorem fC97 : callable Try.prog 97 = true := by kernel_rfl
theorem fC98 : callable Try.prog 98 = true := by kernel_rfl
theorem fC99 : callable Try.prog 99 = true := by kernel_rfl
end Go.Proofs.Ytbmkacnlhlbnjaa
namespace Go.X.Cist
open Go.Conc

structure Day where
  lo : Int
  hi : Int
  want : Int
  deriving DecidableEq, Inhabited

def Day.cells (d : Day) : List Value := [.int .i64 d.lo, .int .i64 d.hi, .int .i64 d.want]
def dz : Day := ⟨0, 0, 0⟩
def dcs (ds : List Day) : List (List Value) := ds.map Day.cells
def Days (p : PHeap) (a : Option Addr) (n : Nat) (ds : List Day) : Prop := Sl p a n 3 (dcs ds)

section
variable {p p' : PHeap} {a : Option Addr} {n k : Nat} {ds : List Day}
theorem Days.len (s : Days p a n ds) : ds.length = n := by have := Sl.len s; simpa [dcs] using this
theorem Days.mono (hp : PLe p p') (s : Days p a n ds) : Days p' a n ds := Sl.mono hp s
theorem Days.ne (s : Days p a n ds) (hk : 0 < n) : a = some (adr a) := Sl.ne s hk
theorem Days.at (s : Days p a n ds) (hk : k < n) {j : Nat} {v : Value} (hv : (ds.getD k dz).cells[j]? = some v) : pcell p (((adr a).add (k * 3)).add j) = some v := by
  have hl := s.len
  refine Sl.get s k (ds.getD k dz).cells ?_ j v hv
  rw [dcs, List.getElem?_map, List.getD_eq_getElem?_getD, List.getElem?_eq_getElem (by omega)]; rfl
theorem Days.lo (s : Days p a n ds) (hk : k < n) : pcell p ((adr a).add (k * 3)) = some (.int .i64 (ds.getD k dz).lo) := s.at hk (j := 0) rfl
theorem Days.hi (s : Days p a n ds) (hk : k < n) : pcell p (((adr a).add (k * 3)).add 1) = some (.int .i64 (ds.getD k dz).hi) := s.at hk (j := 1) rfl
theorem Days.want (s : Days p a n ds) (hk : k < n) : pcell p (((adr a).add (k * 3)).add 2) = some (.int .i64 (ds.getD k dz).want) := s.at hk (j := 2) rfl
theorem Days.all (s : Days p a n ds) (hk : k < n) : ∀ j v, [Value.int .i64 (ds.getD k dz).lo, .int .i64 (ds.getD k dz).hi, .int .i64 (ds.getD k dz).want][j]? = some v → pcell p (((adr a).add (k * 3)).add j) = some v := fun _ _ hv => s.at hk hv
theorem Days.span (s : Days p a n ds) (hk : k < n) : ∀ j v, [Value.int .i64 (ds.getD k dz).lo, .int .i64 (ds.getD k dz).hi][j]? = some v → pcell p (((adr a).add (k * 3)).add j) = some v := fun j v hv => s.at hk (by
  match j, hv with
  | 0, hv => exact hv
  | 1, hv => exact hv
  | j + 2, hv => simp at hv)
theorem dcs_ones (ds : List Day) : ∀ u ∈ (dcs ds).flatten, isOne u = true := by
  intro u hu
  rw [List.mem_flatten] at hu
  obtain ⟨l, hl, hu⟩ := hu
  obtain ⟨x, _, rfl⟩ := List.mem_map.1 hl
  simp [Day.cells] at hu
  rcases hu with rfl | rfl | rfl <;> rfl
theorem dcs_length (ds : List Day) : (dcs ds).length = ds.length := by simp [dcs]
end

/-! ### the document's words -/
def DayOk (d : Day) : Prop := 0 ≤ d.lo ∧ d.lo ≤ 20 ∧ d.lo ≤ d.hi ∧ d.hi ≤ 20 ∧ 0 ≤ d.want ∧ d.want ≤ 20
instance (d : Day) : Decidable (DayOk d) := by unfold DayOk; infer_instance
/-- Is a year valid? -/
def Ok (size start : Int) (ds : List Day) : Prop := 0 ≤ size ∧ size ≤ 60 ∧ 0 ≤ start ∧ start ≤ size ∧ ds.length ≤ 8 ∧ ∀ i, i < ds.length → DayOk (ds.getD i dz)
instance (a b : Int) (ds : List Day) : Decidable (Ok a b ds) := by unfold Ok; infer_instance
def Weather (ds : List Day) (ws : List Int) : Prop := ws.length = ds.length ∧ ∀ i, i < ws.length → (ds.getD i dz).lo ≤ ws.getD i 0 ∧ ws.getD i 0 ≤ (ds.getD i dz).hi
instance (ds : List Day) (ws : List Int) : Decidable (Weather ds ws) := by unfold Weather; infer_instance
def IsDay (ds : List Day) (n : Int) : Prop := 0 ≤ n ∧ n < ds.length
instance (ds : List Day) (n : Int) : Decidable (IsDay ds n) := by unfold IsDay; infer_instance

/-- The level at the end of the first 'i' days. -/
def lev (size start : Int) (want rain : Nat → Int) : Nat → Int
  | 0 => start
  | i + 1 => lev size start want rain i + rain i - max 0 (lev size start want rain i + rain i - size) - (want i - max 0 (want i - (lev size start want rain i + rain i - max 0 (lev size start want rain i + rain i - size))))
def ovr (size start : Int) (want rain : Nat → Int) (i : Nat) : Int := max 0 (lev size start want rain i + rain i - size)
def lack (size start : Int) (want rain : Nat → Int) (i : Nat) : Int := max 0 (want i - (lev size start want rain i + rain i - ovr size start want rain i))

/-- The sum of the first 'k'. -/
def sumTo (f : Nat → Int) : Nat → Int
  | 0 => 0
  | k + 1 => sumTo f k + f k

def chk (size start : Int) (ds : List Day) : Int := if Ok size start ds then 0 else 100
def askd (size start : Int) (ds : List Day) (b : Bool) : Int := if Ok size start ds then (if b = true then 0 else 1) else 100
theorem chk_yes {size start : Int} {ds : List Day} (h : Ok size start ds) : chk size start ds = 0 := if_pos h
theorem chk_no {size start : Int} {ds : List Day} (h : ¬ Ok size start ds) : chk size start ds = 100 := if_neg h
theorem chk_zero {size start : Int} {ds : List Day} : chk size start ds = 0 ↔ Ok size start ds := by
  unfold chk; split <;> simp_all
theorem days_step {ds : List Day} {k : Nat} (h : ∀ i, i < k → DayOk (ds.getD i dz)) (e : DayOk (ds.getD k dz)) : ∀ i, i < k + 1 → DayOk (ds.getD i dz) := fun i hi => by
  by_cases c : i = k
  · subst c; exact e
  · exact h i (by omega)
theorem isDay_iff {ds : List Day} {m : Nat} {n : Int} (hl : ds.length = m) : (0 ≤ n ∧ n ≤ (m : Int) - 1) ↔ IsDay ds n := by
  subst hl; unfold IsDay; omega
theorem weather_step {ds : List Day} {ws : List Int} {k : Nat} (h : ∀ i, i < k → (ds.getD i dz).lo ≤ ws.getD i 0 ∧ ws.getD i 0 ≤ (ds.getD i dz).hi) (e : (ds.getD k dz).lo ≤ ws.getD k 0 ∧ ws.getD k 0 ≤ (ds.getD k dz).hi) :
    ∀ i, i < k + 1 → (ds.getD i dz).lo ≤ ws.getD i 0 ∧ ws.getD i 0 ≤ (ds.getD i dz).hi := fun i hi => by
  by_cases c : i = k
  · subst c; exact e
  · exact h i (by omega)

def wantOf (ds : List Day) (i : Nat) : Int := (ds.getD i dz).want
def listOf (ws : List Int) (i : Nat) : Int := ws.getD i 0

/-- A year that is valid but for its wants, which may be greater. -/
def Lok (size start : Int) (ds : List Day) : Prop := 0 ≤ size ∧ size ≤ 60 ∧ 0 ≤ start ∧ start ≤ size ∧ ds.length ≤ 8 ∧ ∀ i, i < ds.length → 0 ≤ (ds.getD i dz).lo ∧ (ds.getD i dz).lo ≤ (ds.getD i dz).hi ∧ (ds.getD i dz).hi ≤ 20 ∧ 0 ≤ (ds.getD i dz).want ∧ (ds.getD i dz).want ≤ 200
theorem Ok.lok {size start : Int} {ds : List Day} (h : Ok size start ds) : Lok size start ds :=
  ⟨h.1, h.2.1, h.2.2.1, h.2.2.2.1, h.2.2.2.2.1, fun i hi => by have := h.2.2.2.2.2 i hi; unfold DayOk at this; omega⟩
theorem lev_step (size start : Int) (want rain : Nat → Int) (k : Nat) (h : 0 ≤ lev size start want rain k ∧ lev size start want rain k ≤ size) (hw : 0 ≤ want k) :
    0 ≤ lev size start want rain (k + 1) ∧ lev size start want rain (k + 1) ≤ size := by simp only [lev]; omega
theorem lev_bound {size start : Int} {want rain : Nat → Int} {n : Nat} (hs : 0 ≤ start ∧ start ≤ size) (h : ∀ i, i < n → 0 ≤ want i) : ∀ k, k ≤ n → 0 ≤ lev size start want rain k ∧ lev size start want rain k ≤ size
  | 0, _ => hs
  | k + 1, hk => lev_step _ _ _ _ _ (lev_bound hs h k (by omega)) (h k (by omega))
theorem lok_lev {size start : Int} {ds : List Day} {rain : Nat → Int} (h : Lok size start ds) {k : Nat} (hk : k ≤ ds.length) : 0 ≤ lev size start (wantOf ds) rain k ∧ lev size start (wantOf ds) rain k ≤ size :=
  lev_bound ⟨h.2.2.1, h.2.2.2.1⟩ (fun i hi => (h.2.2.2.2.2 i hi).2.2.2.1) k hk
/-- what is known of a day of a weather -/
theorem lok_day {size start : Int} {ds : List Day} {ws : List Int} (h : Lok size start ds) (hw : Weather ds ws) {k : Nat} (hk : k ≤ ds.length) :
    (0 ≤ size ∧ size ≤ 60) ∧ (0 ≤ lev size start (wantOf ds) (listOf ws) k ∧ lev size start (wantOf ds) (listOf ws) k ≤ size) ∧ (k < ds.length → (0 ≤ ws.getD k 0 ∧ ws.getD k 0 ≤ 20) ∧ 0 ≤ (ds.getD k dz).want ∧ (ds.getD k dz).want ≤ 200) := by
  refine ⟨⟨h.1, h.2.1⟩, lok_lev h hk, fun hlt => ?_⟩
  · have h1 := h.2.2.2.2.2 k hlt
    have h2 := hw.2 k (by rw [hw.1]; exact hlt)
    omega
/-- The levels, lacks and overs of the days. -/
def levs (size start : Int) (want rain : Nat → Int) (i : Nat) : Int := lev size start want rain (i + 1)

/-- The number of the first day of which 'q' is so, -1 if there is none. -/
def idxF (q : Day → Bool) : List Day → Int
  | [] => -1
  | d :: ds => if q d = true then 0 else if idxF q ds < 0 then -1 else idxF q ds + 1
theorem idxF_none {q : Day → Bool} : ∀ {ds : List Day}, (∀ i, i < ds.length → q (ds.getD i dz) = false) → idxF q ds = -1
  | [], _ => rfl
  | d :: ds, h => by
    have h0 : q d = false := h 0 (by simp)
    have := idxF_none (ds := ds) fun i hi => by simpa using h (i + 1) (by simpa using hi)
    simp only [idxF, h0, this]; simp
theorem idxF_some {q : Day → Bool} : ∀ {ds : List Day} {k : Nat}, k < ds.length → q (ds.getD k dz) = true → (∀ i, i < k → q (ds.getD i dz) = false) → idxF q ds = k
  | [], _, h, _, _ => by simp at h
  | d :: ds, 0, _, h, _ => by
    have h0 : q d = true := by simpa using h
    simp [idxF, h0]
  | d :: ds, k + 1, hk, h, hi => by
    have h0 : q d = false := by simpa using hi 0 (by omega)
    have := idxF_some (ds := ds) (k := k) (by simpa using hk) (by simpa using h) fun i hlt => by simpa using hi (i + 1) (by omega)
    simp only [idxF, h0, this]
    rw [if_neg (by simp), if_neg (by omega)]; omega
theorem idxF_cases (q : Day → Bool) (ds : List Day) : (idxF q ds = -1 ∧ ∀ i, i < ds.length → q (ds.getD i dz) = false) ∨ ∃ k, k < ds.length ∧ idxF q ds = (k : Nat) ∧ q (ds.getD k dz) = true ∧ ∀ i, i < k → q (ds.getD i dz) = false := by
  by_cases h : ∃ k, k < ds.length ∧ q (ds.getD k dz) = true
  · have : ∃ k, k < ds.length ∧ q (ds.getD k dz) = true ∧ ∀ i, i < k → q (ds.getD i dz) = false := by
      obtain ⟨k, h1, h2⟩ := h
      induction k using Nat.strongRecOn with
      | _ k ih =>
        by_cases hl : ∀ i, i < k → q (ds.getD i dz) = false
        · exact ⟨k, h1, h2, hl⟩
        · have : ∃ i, i < k ∧ q (ds.getD i dz) = true := Classical.byContradiction fun hn => hl fun i hi => by
            cases hq : q (ds.getD i dz)
            · rfl
            · exact absurd ⟨i, hi, hq⟩ hn
          obtain ⟨i, hi, hq⟩ := this
          exact ih i hi (by omega) hq
    obtain ⟨k, h1, h2, h3⟩ := this
    exact .inr ⟨k, h1, idxF_some h1 h2 h3, h2, h3⟩
  · have hf : ∀ i, i < ds.length → q (ds.getD i dz) = false := fun i hi => by
      cases hq : q (ds.getD i dz)
      · rfl
      · exact absurd ⟨i, hi, hq⟩ h
    exact .inl ⟨idxF_none hf, hf⟩
def badDay (d : Day) : Bool := decide (¬ DayOk d)
theorem idx_step {q : Day → Bool} {ds : List Day} {k : Nat} (h : ∀ i, i < k → q (ds.getD i dz) = false) (e : q (ds.getD k dz) = false) : ∀ i, i < k + 1 → q (ds.getD i dz) = false := fun i hi => by
  by_cases c : i = k
  · subst c; exact e
  · exact h i (by omega)
theorem chk_bad {size start : Int} {ds : List Day} (h : ¬ (0 ≤ size ∧ size ≤ 60) ∨ ¬ (0 ≤ start ∧ start ≤ size) ∨ 8 < ds.length ∨ 0 ≤ idxF badDay ds) : chk size start ds = 100 := by
  refine chk_no fun e => ?_
  unfold Ok at e
  rcases h with h | h | h | h
  · omega
  · omega
  · omega
  · rcases idxF_cases badDay ds with ⟨e1, _⟩ | ⟨k, h1, _, h3, _⟩
    · omega
    · have := e.2.2.2.2.2 k h1
      simp [badDay] at h3
      exact h3 this
theorem chk_good {size start : Int} {ds : List Day} (h1 : 0 ≤ size ∧ size ≤ 60) (h2 : 0 ≤ start ∧ start ≤ size) (h3 : ¬ 8 < ds.length) (h4 : ¬ 0 ≤ idxF badDay ds) : chk size start ds = 0 := by
  refine chk_yes ⟨h1.1, h1.2, h2.1, h2.2, by omega, fun i hi => ?_⟩
  rcases idxF_cases badDay ds with ⟨_, e⟩ | ⟨k, _, e, _⟩
  · have := e i hi
    simpa [badDay] using this
  · omega

theorem askd_no {size start : Int} {ds : List Day} {b : Bool} (h : ¬ Ok size start ds) : askd size start ds b = 100 := if_neg h
theorem askd_arg {size start : Int} {ds : List Day} {b : Bool} (h : Ok size start ds) (hb : b = false) : askd size start ds b = 1 := by unfold askd; rw [if_pos h, hb]; rfl
theorem askd_ok {size start : Int} {ds : List Day} {b : Bool} (h : Ok size start ds) (hb : b = true) : askd size start ds b = 0 := by unfold askd; rw [if_pos h, hb]; rfl
theorem askd_zero {size start : Int} {ds : List Day} {b : Bool} : askd size start ds b = 0 ↔ Ok size start ds ∧ b = true := by
  unfold askd; split <;> cases b <;> simp_all

def loOf (ds : List Day) (i : Nat) : Int := (ds.getD i dz).lo
def hiOf (ds : List Day) (i : Nat) : Int := (ds.getD i dz).hi
/-- Does the year last, in the driest weather? -/
def Lasts (size start : Int) (ds : List Day) : Prop := ∀ i, i < ds.length → ¬ 0 < lack size (min start size) (wantOf ds) (loOf ds) i
instance (size start : Int) (ds : List Day) : Decidable (Lasts size start ds) := by unfold Lasts; infer_instance
theorem none_step {P : Nat → Prop} {k : Nat} (h : ∀ i, i < k → ¬ P i) (e : ¬ P k) : ∀ i, i < k + 1 → ¬ P i := fun i hi => by
  by_cases c : i = k
  · subst c; exact e
  · exact h i (by omega)
/-- what a year must be for the program to reckon with it -/
def Dok (ds : List Day) : Prop := ∀ i, i < ds.length → (0 ≤ (ds.getD i dz).lo ∧ (ds.getD i dz).lo ≤ (ds.getD i dz).hi ∧ (ds.getD i dz).hi ≤ 20) ∧ 0 ≤ (ds.getD i dz).want ∧ (ds.getD i dz).want ≤ 200
theorem Ok.dok {size start : Int} {ds : List Day} (h : Ok size start ds) : Dok ds := fun i hi => by have := h.2.2.2.2.2 i hi; unfold DayOk at this; omega

/-! ### other wants -/
def setWant (ds : List Day) (i : Nat) (w : Int) : List Day := ds.set i { ds.getD i dz with want := w }
theorem dcs_set {ds : List Day} {i : Nat} {w : Int} : (dcs ds).set i ((ds.getD i dz).cells.set 2 (.int .i64 w)) = dcs (setWant ds i w) := by
  simp only [dcs, setWant, List.map_set]; rfl
theorem dcs_at {ds : List Day} {i : Nat} (h : i < ds.length) : (dcs ds)[i]? = some (ds.getD i dz).cells := by
  rw [dcs, List.getElem?_map, List.getD_eq_getElem?_getD, List.getElem?_eq_getElem h]; rfl
/-- The first 'k' days with other wants. -/
def wpre (wf : Nat → Int → Int) (ds : List Day) (k : Nat) : List Day := (List.range ds.length).map fun i => if i < k then { ds.getD i dz with want := wf i (ds.getD i dz).want } else ds.getD i dz
def wmap (wf : Nat → Int → Int) (ds : List Day) : List Day := wpre wf ds ds.length
theorem wpre_length (wf : Nat → Int → Int) (ds : List Day) (k : Nat) : (wpre wf ds k).length = ds.length := by simp [wpre]
theorem wpre_getD {wf : Nat → Int → Int} {ds : List Day} {k i : Nat} (h : i < ds.length) : (wpre wf ds k).getD i dz = if i < k then { ds.getD i dz with want := wf i (ds.getD i dz).want } else ds.getD i dz := by
  simp [wpre, List.getD_eq_getElem?_getD, h]
theorem wpre_zero (wf : Nat → Int → Int) (ds : List Day) : wpre wf ds 0 = ds := by
  refine ext_getD (d := dz) (wpre_length _ _ _) fun i hi => ?_
  rw [wpre_length] at hi
  rw [wpre_getD hi, if_neg (by omega)]
theorem wpre_succ {wf : Nat → Int → Int} {ds : List Day} {k : Nat} (h : k < ds.length) : setWant (wpre wf ds k) k (wf k (ds.getD k dz).want) = wpre wf ds (k + 1) := by
  refine ext_getD (d := dz) (by simp [setWant, wpre_length]) fun i hi => ?_
  have hi' : i < ds.length := by simpa [setWant, wpre_length] using hi
  rw [wpre_getD hi']
  unfold setWant
  rw [List.getD_eq_getElem?_getD, List.getElem?_set]
  by_cases e : k = i
  · subst e
    rw [if_pos rfl, if_pos (by rw [wpre_length]; exact h), if_pos (by omega), wpre_getD h, if_neg (by omega)]; rfl
  · rw [if_neg e, ← List.getD_eq_getElem?_getD, wpre_getD hi']
    by_cases c : i < k
    · rw [if_pos c, if_pos (by omega)]
    · rw [if_neg c, if_neg (by omega)]
theorem wmap_length (wf : Nat → Int → Int) (ds : List Day) : (wmap wf ds).length = ds.length := wpre_length _ _ _
theorem wmap_getD {wf : Nat → Int → Int} {ds : List Day} {i : Nat} (h : i < ds.length) : (wmap wf ds).getD i dz = { ds.getD i dz with want := wf i (ds.getD i dz).want } := by
  unfold wmap; rw [wpre_getD h, if_pos h]

theorem wpre_at {wf : Nat → Int → Int} {ds : List Day} {k : Nat} (h : k < ds.length) : (dcs (wpre wf ds k))[k]? = some [.int .i64 (ds.getD k dz).lo, .int .i64 (ds.getD k dz).hi, .int .i64 (ds.getD k dz).want] := by
  rw [dcs_at (by rw [wpre_length]; exact h), wpre_getD h, if_neg (by omega)]; rfl
theorem wpre_set {wf : Nat → Int → Int} {ds : List Day} {k : Nat} (h : k < ds.length) :
    (dcs (wpre wf ds k)).set k ([Value.int .i64 (ds.getD k dz).lo, .int .i64 (ds.getD k dz).hi, .int .i64 (ds.getD k dz).want].set 2 (.int .i64 (wf k (ds.getD k dz).want))) = dcs (wpre wf ds (k + 1)) := by
  rw [← wpre_succ h, ← dcs_set, wpre_getD h, if_neg (by omega)]; rfl
theorem nil_of_none {p : PHeap} {a : Option Addr} {n : Nat} {ds : List Day} (D : Days p a n ds) (h : a.isNone = true) : ds = [] := by
  have hl := D.len
  cases ds with
  | nil => rfl
  | cons d ds =>
    have := D.ne (by rw [← hl]; simp)
    rw [this] at h; cases h

theorem dok_wmap {wf : Nat → Int → Int} {ds : List Day} (h : Dok ds) (hw : ∀ i, i < ds.length → 0 ≤ wf i (ds.getD i dz).want ∧ wf i (ds.getD i dz).want ≤ 200) : Dok (wmap wf ds) := fun i hi => by
  rw [wmap_length] at hi
  rw [wmap_getD hi]
  exact ⟨(h i hi).1, hw i hi⟩
def rationed (n : Int) (ds : List Day) : List Day := wmap (fun _ w => min w n) ds
/-- The greatest ration up to 'k' with which the year lasts. -/
def ratDown (size start : Int) (ds : List Day) : Nat → Int
  | 0 => 0
  | k + 1 => if Lasts size start (rationed ((k + 1 : Nat) : Int) ds) then ((k + 1 : Nat) : Int) else ratDown size start ds k
theorem lev_nonneg {size start : Int} {want rain : Nat → Int} {n : Nat} (hs : 0 ≤ start ∧ start ≤ size) (h : ∀ i, i < n → 0 ≤ want i) (k : Nat) (hk : k ≤ n) : 0 ≤ lev size start want rain k := (lev_bound hs h k hk).1
theorem lasts_zero {size start : Int} {ds : List Day} (hs : 0 ≤ size ∧ 0 ≤ start) (hd : Dok ds) : Lasts size start (rationed 0 ds) := by
  intro i hi
  unfold rationed at hi
  rw [wmap_length] at hi
  have hw : ∀ j, j < ds.length → wantOf (rationed 0 ds) j = 0 := fun j hj => by
    unfold wantOf rationed; rw [wmap_getD hj]
    have := (hd j hj).2
    show min (ds.getD j dz).want 0 = 0
    omega
  have hl := lev_nonneg (size := size) (start := min start size) (want := wantOf (rationed 0 ds)) (rain := loOf (rationed 0 ds)) (n := ds.length) ⟨by omega, by omega⟩ (fun j hj => by rw [hw j hj]; exact Int.le_refl _) i (by omega)
  have hr : 0 ≤ loOf (rationed 0 ds) i := by unfold loOf rationed; rw [wmap_getD hi]; exact (hd i hi).1.1
  unfold lack ovr
  rw [hw i hi]
  omega
theorem rat_at {size start : Int} {ds : List Day} {k : Nat} (h : Lasts size start (rationed (k : Nat) ds)) : ratDown size start ds k = k := by
  cases k with
  | zero => rfl
  | succ k => unfold ratDown; rw [if_pos h]
theorem rat_down {size start : Int} {ds : List Day} {k : Nat} (hs : 0 ≤ size ∧ 0 ≤ start) (hd : Dok ds) (h : ¬ Lasts size start (rationed (k : Nat) ds)) : 0 < k ∧ ratDown size start ds k = ratDown size start ds (k - 1) := by
  cases k with
  | zero => exact absurd (lasts_zero hs hd) h
  | succ k => exact ⟨by omega, by rw [Nat.add_sub_cancel]; show (if _ then _ else _) = _; rw [if_neg h]⟩

/-- The first number from 'k' on, of 'f' numbers, of which 'q' is so. -/
def upTo (q : Nat → Bool) : Nat → Nat → Option Nat
  | _, 0 => none
  | k, f + 1 => if q k = true then some k else upTo q (k + 1) f
theorem upTo_hit {q : Nat → Bool} {k n : Nat} (hk : k < n) (h : q k = true) : upTo q k (n - k) = some k := by
  rw [show n - k = (n - k - 1) + 1 from by omega]; unfold upTo; rw [if_pos h]
theorem upTo_miss {q : Nat → Bool} {k n : Nat} (hk : k < n) (h : q k = false) : upTo q k (n - k) = upTo q (k + 1) (n - (k + 1)) := by
  rw [show n - k = (n - (k + 1)) + 1 from by omega]; conv => lhs; unfold upTo
  rw [if_neg (by rw [h]; simp)]
theorem upTo_end {q : Nat → Bool} {k n : Nat} (hk : n ≤ k) : upTo q k (n - k) = none := by
  rw [show n - k = 0 from by omega]; rfl
def found : Option Nat → Int × Int
  | some k => ((k : Nat), 0)
  | none => (0, 3)
/-- Size, Start: what is returned, and the error. -/
def sizeR (size start : Int) (ds : List Day) : Int × Int := if Ok size start ds then found (upTo (fun k => decide (Lasts (k : Nat) start ds)) 0 61) else (0, 100)
def startR (size start : Int) (ds : List Day) : Int × Int := if Ok size start ds then found (upTo (fun k => decide (Lasts size (k : Nat) ds)) 0 (size.toNat + 1)) else (0, 100)

/-- A year in which more is wanted on a day. -/
def moreF (day more : Int) (i : Nat) (w : Int) : Int := if ((i : Nat) : Int) = day then w + more else w
def wanted (day more : Int) (ds : List Day) : List Day := wmap (moreF day more) ds
/-- How much more can be wanted on a day: the first number with which one more is too much. -/
def spUp (size start : Int) (ds : List Day) (day : Int) : Option Nat := upTo (fun k => decide (¬ Lasts size start (wanted day ((k : Nat) + 1) ds))) 0 100
/-- too much is wanted -/
theorem not_lasts_more {size start day : Int} {ds : List Day} {more : Int} (hs : 0 ≤ size ∧ size ≤ 60 ∧ 0 ≤ start) (hd : Dok ds) (hday : IsDay ds day) (hm : 60 < more) : ¬ Lasts size start (wanted day more ds) := by
  intro hl
  obtain ⟨h0, h1⟩ := hday
  have hi : day.toNat < ds.length := by omega
  have hlen : (wanted day more ds).length = ds.length := wmap_length _ _
  have := hl day.toNat (by rw [hlen]; exact hi)
  have hw : wantOf (wanted day more ds) day.toNat = (ds.getD day.toNat dz).want + more := by
    unfold wantOf wanted; rw [wmap_getD hi]
    show moreF day more day.toNat _ = _
    unfold moreF; rw [if_pos (by omega)]
  have hwn : ∀ i, i < ds.length → 0 ≤ wantOf (wanted day more ds) i := fun i hi => by
    unfold wantOf wanted; rw [wmap_getD hi]
    show 0 ≤ moreF day more i _
    have := (hd i hi).2.1
    unfold moreF; split <;> omega
  have hb := lev_bound (size := size) (start := min start size) (want := wantOf (wanted day more ds)) (rain := loOf (wanted day more ds)) (n := ds.length) ⟨by omega, by omega⟩ hwn day.toNat (by omega)
  have h2 := (hd day.toNat hi).2.1
  unfold lack ovr at this
  rw [hw] at this
  omega

def spareR (size start : Int) (ds : List Day) (day : Int) : Int × Int :=
  if askd size start ds (decide (IsDay ds day)) = 0 then (if Lasts size start ds then found (spUp size start ds day) else (0, 3)) else (0, askd size start ds (decide (IsDay ds day)))

/-- How many weathers the first 'k' days have. -/
def cnt (ds : List Day) : Nat → Int
  | 0 => 1
  | k + 1 => cnt ds k * (hiOf ds k - loOf ds k + 1)
def FarD (size start : Int) (ds : List Day) : Prop := 40 < ds.length ∨ (Ok size start ds ∧ 60 < cnt ds ds.length)
instance (size start : Int) (ds : List Day) : Decidable (FarD size start ds) := by unfold FarD; infer_instance
theorem cnt_step {ds : List Day} {k : Nat} (h : 1 ≤ cnt ds k) (hf : 1 ≤ hiOf ds k - loOf ds k + 1) : cnt ds k ≤ cnt ds (k + 1) := by
  have := Int.mul_le_mul_of_nonneg_left hf (show 0 ≤ cnt ds k by omega)
  rw [Int.mul_one] at this
  exact this
theorem cnt_mono {ds : List Day} (hd : Dok ds) : ∀ {k : Nat}, k ≤ ds.length → 1 ≤ cnt ds k
  | 0, _ => Int.le_refl _
  | k + 1, hk => by
    have h1 := cnt_mono hd (k := k) (by omega)
    have h2 := (hd k (by omega)).1
    have := cnt_step h1 (show 1 ≤ hiOf ds k - loOf ds k + 1 by unfold hiOf loOf; omega)
    omega
theorem cnt_le {ds : List Day} (hd : Dok ds) {k : Nat} (m : Nat) (hk : k + m ≤ ds.length) : cnt ds k ≤ cnt ds (k + m) := by
  induction m with
  | zero => exact Int.le_refl _
  | succ m ih =>
    have h1 := ih (by omega)
    have h2 := (hd (k + m) (by omega)).1
    have := cnt_step (cnt_mono hd (k := k + m) (by omega)) (show 1 ≤ hiOf ds (k + m) - loOf ds (k + m) + 1 by unfold hiOf loOf; omega)
    exact Int.le_trans h1 this
theorem mul_bound {a b : Int} (ha : 1 ≤ a ∧ a ≤ 60) (hb : 1 ≤ b ∧ b ≤ 21) : -9223372036854775808 ≤ a * b ∧ a * b ≤ 9223372036854775807 := by
  have h1 := Int.mul_le_mul ha.2 hb.2 (by omega) (by omega)
  have h2 := Int.mul_nonneg (show 0 ≤ a by omega) (show 0 ≤ b by omega)
  omega
end Go.X.Cist
namespace Go.Proofs.Ytbmkacnlhlbnjaa
open Go.X Go.X.Cist Go.Conc

set_option maxRecDepth 10000

theorem spanEq (n : Nat) (a b c d : Int) : ∀ h (K : Bool → Heap → Prop), K (decide (a = c ∧ b = d)) h → wpS Try.prog (Op.equalIn (n + 2) 36 (.agg #[.int .i64 a, .int .i64 b]) (.agg #[.int .i64 c, .int .i64 d])) h K := fun h K x => by
  refine wpS_eqStruct Try.underlying36 (by kernel_rfl) (r := decide (a = c ∧ b = d)) ?_ x
  refine ⟨by decide, _, _, decide (a = c), fun h K k => wpS_part1 tA3 rfl k, fun h K k => wpS_part1 tA3 rfl k, fun h K k => wpS_eqInt Try.underlying3 k, ?_⟩
  by_cases e : a = c
  · refine .inr ⟨decide_eq_true e, by decide, _, _, decide (b = d), fun h K k => wpS_part1 tA3 rfl k, fun h K k => wpS_part1 tA3 rfl k, fun h K k => wpS_eqInt Try.underlying3 k, ?_⟩
    by_cases e2 : b = d
    · exact .inr ⟨decide_eq_true e2, decide_eq_true ⟨e, e2⟩⟩
    · exact .inl ⟨decide_eq_false e2, decide_eq_false fun x => e2 x.2⟩
  · exact .inl ⟨decide_eq_false e, decide_eq_false fun x => e x.1⟩

theorem dayEq (n : Nat) (x y : Day) : ∀ h (K : Bool → Heap → Prop), K (decide (x = y)) h → wpS Try.prog (Op.equalIn (n + 3) 38 (.agg #[.int .i64 x.lo, .int .i64 x.hi, .int .i64 x.want]) (.agg #[.int .i64 y.lo, .int .i64 y.hi, .int .i64 y.want])) h K := fun h K k => by
  obtain ⟨a, b, c⟩ := x
  obtain ⟨a', b', c'⟩ := y
  refine wpS_eqStruct Try.underlying38 (by kernel_rfl) (r := decide ((⟨a, b, c⟩ : Day) = ⟨a', b', c'⟩)) ?_ k
  refine ⟨by decide, _, _, decide (a = a' ∧ b = b'), fun h K k => wpS_partA tA36 tS36 k, fun h K k => wpS_partA tA36 tS36 k, fun h K k => spanEq _ _ _ _ _ _ _ k, ?_⟩
  by_cases e : a = a' ∧ b = b'
  · refine .inr ⟨decide_eq_true e, by decide, _, _, decide (c = c'), fun h K k => wpS_part1 tA3 rfl k, fun h K k => wpS_part1 tA3 rfl k, fun h K k => wpS_eqInt Try.underlying3 k, ?_⟩
    by_cases e2 : c = c'
    · exact .inr ⟨decide_eq_true e2, decide_eq_true (by rw [e.1, e.2, e2])⟩
    · exact .inl ⟨decide_eq_false e2, decide_eq_false fun x => e2 (by injection x)⟩
  · exact .inl ⟨decide_eq_false e, decide_eq_false fun x => e (by injection x with h1 h2; exact ⟨h1, h2⟩)⟩
theorem gT36 : Try.prog.eqGuardType Try.prog.depth 36 = false := by kernel_rfl
theorem gT38 : Try.prog.eqGuardType Try.prog.depth 38 = false := by kernel_rfl
end Go.Proofs.Ytbmkacnlhlbnjaa
namespace Go.Proofs
abbrev Try.link : Go.Conc.Lib.WgLink := { add := 90, done := 92, wait := 93, relMerge := 100, disable := 101, enable := 102, inBubble := 103, associate := 104, fatal := 105, uOr := 106, uAdd := 107, raceRead := 108, uLoad := 109, uStore := 110, disassociate := 111, semrelease := 112, acquire := 113, isAssociated := 114, uCas := 115, raceWrite := 116, semacquire := 117, orU64 := 118, addU64 := 119, loadU64 := 120, storeU64 := 121, casU64 := 122, tWgP := 110, tUP := 112, tAssoc := 113, tWg := 99, tAU := 96, tU64 := 94, tUint := 117, tU32 := 97, tPU32 := 118, tPAU := 127, tPU64 := 129, tNoCopy := 91, tANoCopy := 92, tAlign64 := 93 }
theorem Try.wgLib : Go.Conc.Lib.WgLib Try.prog Try.link :=
  ⟨Try.func90, Try.func92, Try.func93, Try.func100, Try.func101, Try.func102, Try.func103, Try.func104, Try.func105, Try.func106, Try.func107, Try.func108, Try.func109, Try.func110, Try.func111, Try.func112, Try.func113, Try.func114, Try.func115, Try.func116, Try.func117, Try.func118, Try.func119, Try.func120, Try.func121, Try.func122, Try.underlying110, Try.runUnderlying110, Try.sizeOf110, Try.isAgg110, Try.zeroValue110, Try.underlying112, Try.runUnderlying112, Try.sizeOf112, Try.isAgg112, Try.zeroValue112, Try.underlying113, Try.runUnderlying113, Try.sizeOf113, Try.isAgg113, Try.zeroValue113, Try.underlying99, Try.runUnderlying99, Try.sizeOf99, Try.isAgg99, Try.zeroValue99, Try.underlying96, Try.runUnderlying96, Try.sizeOf96, Try.isAgg96, Try.zeroValue96, Try.underlying94, Try.runUnderlying94, Try.sizeOf94, Try.isAgg94, Try.zeroValue94, Try.underlying117, Try.runUnderlying117, Try.sizeOf117, Try.isAgg117, Try.zeroValue117, Try.underlying97, Try.runUnderlying97, Try.sizeOf97, Try.isAgg97, Try.zeroValue97, Try.underlying118, Try.runUnderlying118, Try.sizeOf118, Try.isAgg118, Try.zeroValue118, Try.underlying127, Try.runUnderlying127, Try.sizeOf127, Try.isAgg127, Try.zeroValue127, Try.underlying129, Try.runUnderlying129, Try.sizeOf129, Try.isAgg129, Try.zeroValue129, Try.underlying0, Try.runUnderlying0, Try.sizeOf0, Try.isAgg0, Try.zeroValue0, Try.underlying3, Try.runUnderlying3, Try.sizeOf3, Try.isAgg3, Try.zeroValue3, Try.underlying4, Try.runUnderlying4, Try.sizeOf4, Try.isAgg4, Try.zeroValue4, Try.underlying9, Try.runUnderlying9, Try.sizeOf9, Try.isAgg9, Try.zeroValue9, Try.underlying20, Try.runUnderlying20, Try.sizeOf20, Try.isAgg20, Try.zeroValue20, Try.underlying21, Try.runUnderlying21, Try.sizeOf21, Try.isAgg21, Try.zeroValue21, (by kernel_rfl), (by kernel_rfl)⟩
end Go.Proofs
namespace Go.X.Cist
open Go.X

def sideDay (size start : Int) (want rain : Nat → Int) (i : Nat) : Day := ⟨lev size start want rain (i + 1), lack size start want rain i, sumTo (ovr size start want rain) (i + 1)⟩
def side (size start : Int) (want rain : Nat → Int) (k : Nat) : List Day := (List.range k).map (sideDay size start want rain)
theorem side_length {size start : Int} {want rain : Nat → Int} {k : Nat} : (side size start want rain k).length = k := by simp [side]
theorem side_getD {size start : Int} {want rain : Nat → Int} {k i : Nat} (h : i < k) : (side size start want rain k).getD i dz = sideDay size start want rain i := by
  simp [side, List.getD_eq_getElem?_getD, h]
theorem dcs_side_succ (size start : Int) (want rain : Nat → Int) (k : Nat) : dcs (side size start want rain (k + 1)) =
    dcs (side size start want rain k) ++ [[.int .i64 (lev size start want rain (k + 1)), .int .i64 (lack size start want rain k), .int .i64 (sumTo (ovr size start want rain) k + ovr size start want rain k)]] := by
  simp [side, dcs, List.range_succ, sideDay, Day.cells, sumTo]
theorem ovr_bound {size start : Int} {want rain : Nat → Int} {n : Nat} (hs : 0 ≤ start ∧ start ≤ size) (hw : ∀ i, i < n → 0 ≤ want i) (hr : ∀ i, i < n → 0 ≤ rain i ∧ rain i ≤ 20) {i : Nat} (hi : i < n) : 0 ≤ ovr size start want rain i ∧ ovr size start want rain i ≤ 20 := by
  have := lev_bound (rain := rain) hs hw i (by omega)
  have := hr i hi
  unfold ovr; omega
theorem sum_bound {size start : Int} {want rain : Nat → Int} {n : Nat} (hs : 0 ≤ start ∧ start ≤ size) (hw : ∀ i, i < n → 0 ≤ want i) (hr : ∀ i, i < n → 0 ≤ rain i ∧ rain i ≤ 20) : ∀ k, k ≤ n → 0 ≤ sumTo (ovr size start want rain) k ∧ sumTo (ovr size start want rain) k ≤ 20 * k
  | 0, _ => by simp [sumTo]
  | k + 1, hk => by
    have := sum_bound hs hw hr k (by omega)
    have := ovr_bound (i := k) hs hw hr (by omega)
    simp only [sumTo]; omega
end Go.X.Cist
namespace Go.Proofs.Ytbmkacnlhlbnjaa
open Go.X Go.Conc
set_option maxRecDepth 10000

theorem c22 (md : Md) (h : Heap) (n lo hi : Int) : CallsX Try.prog md 22 #[.int .i64 (n), .int .i64 (lo), .int .i64 (hi)] h fun v h' => v = .bool (decide (lo ≤ n ∧ n ≤ hi)) ∧ Keep h h' := by
  refine calls_intro (Φ := fun h_ => St h [] (fun _ => none) h_ []) Try.func22 rfl (tm := [_, _, _, _, _, _, _, _, _, _, _, _, _, _, _]) rfl ?_ (St.start h _ (fun _ _ e => by cases e))
  intro c₀ cs Stop K
  refine fl_seq ?_
  refine rl_start ?_
  refine rl_det (met_none rfl) (fun h_ H_ => exd_assign (v := .bool (false)) rfl) (tm' := _::_::_::_::_::_::_::_) rfl ?_
  refine rl_end ?_
  refine fl_seq ?_
  refine rl_start ?_
  refine rl_det (met_none rfl) (fun h_ H_ => exd_move (v := .int .i64 (lo)) rfl) (tm' := _::_::_::_::_::_::_::_::_) rfl ?_
  refine rl_det (met_none rfl) (fun h_ H_ => exd_move (v := .int .i64 (n)) rfl) (tm' := _::_::_::_::_::_::_::_::_::_) rfl ?_
  refine rl_det (met_none rfl) (fun h_ H_ => exd_leq rfl rfl) (tm' := _::_::_::_::_::_::_::_::_::_::_) rfl ?_
  refine rl_det (met_none rfl) (fun h_ H_ => exd_move (v := .bool (decide (lo ≤ n))) rfl) (tm' := [_,_,_,_,_,_,_,_,_,_,_,_,_,_,_]) rfl ?_
  by_cases cc1 : lo ≤ n
  · refine rl_det (met_some rfl rfl (decide_eq_true cc1)) (fun h_ H_ => exd_move (v := .int .i64 (n)) rfl) (tm' := [_,_,_,_,_,_,_,_,_,_,_,_,_,_,_]) rfl ?_
    refine rl_det (met_some rfl rfl (decide_eq_true cc1)) (fun h_ H_ => exd_move (v := .int .i64 (hi)) rfl) (tm' := [_,_,_,_,_,_,_,_,_,_,_,_,_,_,_]) rfl ?_
    refine rl_det (met_some rfl rfl (decide_eq_true cc1)) (fun h_ H_ => exd_leq rfl rfl) (tm' := [_,_,_,_,_,_,_,_,_,_,_,_,_,_,_]) rfl ?_
    refine rl_det (met_none rfl) (fun h_ H_ => exd_pick_t rfl (decide_eq_true cc1) (v := .bool (decide (n ≤ hi))) rfl) (tm' := [_,_,_,_,_,_,_,_,_,_,_,_,_,_,_]) rfl ?_
    refine rl_det (met_none rfl) (fun h_ H_ => exd_assign (v := .bool (decide (n ≤ hi))) rfl) (tm' := _::_::_::_::_::_::_::_) rfl ?_
    refine rl_end ?_
    refine fl_ret Try.func22 rfl (vs := [.bool (decide (n ≤ hi))]) (fun h_ H_ => ⟨.bool (decide (n ≤ hi)), _, rfl, rfl, rfl⟩) (v := .bool (decide (n ≤ hi))) rfl ?_
    exact fun h_ H_ => K _ _ ⟨by simp [*], H_.kept⟩
  · refine rl_pass (met_not rfl rfl (decide_eq_false cc1)) (tm' := [_,_,_,_,_,_,_,_,_,_,_,_,_,_,_]) rfl ?_
    refine rl_pass (met_not rfl rfl (decide_eq_false cc1)) (tm' := [_,_,_,_,_,_,_,_,_,_,_,_,_,_,_]) rfl ?_
    refine rl_pass (met_not rfl rfl (decide_eq_false cc1)) (tm' := [_,_,_,_,_,_,_,_,_,_,_,_,_,_,_]) rfl ?_
    refine rl_det (met_none rfl) (fun h_ H_ => exd_pick_f rfl (decide_eq_false cc1) (v := .bool (false)) rfl) (tm' := [_,_,_,_,_,_,_,_,_,_,_,_,_,_,_]) rfl ?_
    refine rl_det (met_none rfl) (fun h_ H_ => exd_assign (v := .bool (false)) rfl) (tm' := _::_::_::_::_::_::_::_) rfl ?_
    refine rl_end ?_
    refine fl_ret Try.func22 rfl (vs := [.bool (false)]) (fun h_ H_ => ⟨.bool (false), _, rfl, rfl, rfl⟩) (v := .bool (false)) rfl ?_
    exact fun h_ H_ => K _ _ ⟨by simp [*], H_.kept⟩
theorem c36 (md : Md) (h : Heap) (p : PHeap) (hp : Per p h) (a b : Option Addr) (m n c d : Nat) (xs ys : List Int) (A : Ints p a m xs) (B : Ints p b n ys) (hm : m ≤ 2 ^ 40) : CallsX Try.prog md 36 #[.slice a m c, .slice b n d] h fun v h' => v = .bool (decide (xs = ys)) ∧ Keep h h' := by
  refine calls_intro (Φ := fun h_ => St h [] p h_ []) Try.func36 rfl (tm := [_, _, _, _, _, _, _, _, _, _, _, _, _, _, _, _, _, _, _, _, _, _, _, _, _, _]) rfl ?_ (St.start h _ hp)
  intro c₀ cs Stop K
  refine fl_seq ?_
  refine rl_start ?_
  refine rl_det (met_none rfl) (fun h_ H_ => exd_assign (v := .bool (false)) rfl) (tm' := _::_::_::_::_::_) rfl ?_
  refine rl_end ?_
  refine fl_seq ?_
  refine fl_seq ?_
  refine rl_start ?_
  refine rl_det (met_none rfl) (fun h_ H_ => exd_move (v := .slice a m c) rfl) (tm' := _::_::_::_::_::_::_::_) rfl ?_
  refine rl_det (met_none rfl) (fun h_ H_ => exd_len Try.underlying25 rfl) (tm' := _::_::_::_::_::_::_::_::_) rfl ?_
  refine rl_det (met_none rfl) (fun h_ H_ => exd_move (v := .slice b n d) rfl) (tm' := _::_::_::_::_::_::_::_::_::_) rfl ?_
  refine rl_det (met_none rfl) (fun h_ H_ => exd_len Try.underlying25 rfl) (tm' := _::_::_::_::_::_::_::_::_::_::_) rfl ?_
  refine rl_det (met_none rfl) (fun h_ H_ => exd_neq rfl rfl) (tm' := _::_::_::_::_::_::_::_::_::_::_::_) rfl ?_
  refine rl_end ?_
  by_cases cc1 : ((m : Nat) : Int) ≠ ((n : Nat) : Int)
  · refine fl_then rfl (decide_eq_true cc1) ?_
    refine fl_seq ?_
    refine rl_start ?_
    refine rl_det (met_none rfl) (fun h_ H_ => exd_assign (v := .bool (false)) rfl) (tm' := _::_::_::_::_::_) rfl ?_
    refine rl_end ?_
    refine fl_ret Try.func36 rfl (vs := [.bool (false)]) (fun h_ H_ => ⟨.bool (false), _, rfl, rfl, rfl⟩) (v := .bool (false)) rfl ?_
    exact fun h_ H_ => K _ _ ⟨by first | exact same_no A.len B.len (by omega) | exact same_not ‹_› | exact same_yes A.len B.len (by omega) (by omega) hs, H_.kept⟩
  · refine fl_else rfl (decide_eq_false cc1) ?_
    refine fl_skip ?_
    refine fl_seq ?_
    refine fl_seq ?_
    refine rl_start ?_
    refine rl_det (met_none rfl) (fun h_ H_ => exd_assign (v := .int .i64 0) rfl) (tm' := _::_::_::_::_::_::_) rfl ?_
    refine rl_end ?_
    refine fl_block ?_
    refine fl_loop (m₀ := m - 0) (fun m_ tm_ h_ => ∃ (k : Nat) (y2 : Nat → Value), m_ = m - k ∧ tm_ = [.slice a m c, .slice b n d, undef, undef, (y2 0), .int .i64 (((k : Nat) : Int)), .slice a m c, .int .i64 (((m : Nat) : Int)), .slice b n d, .int .i64 (((n : Nat) : Int)), .bool (decide (((m : Nat) : Int) ≠ ((n : Nat) : Int))), (y2 1), (y2 2), (y2 3), (y2 4), (y2 5), (y2 6), (y2 7), (y2 8), (y2 9), (y2 10), (y2 11), (y2 12), (y2 13), (y2 14), (y2 15)] ∧ (k ≤ m) ∧ (∀ i, i < k → xs.getD i 0 = ys.getD i 0) ∧ St h [] p h_ ([])) (fun h_ H_ => ⟨0, (fun i_ => [.bool (false), undef, undef, undef, undef, undef, undef, undef, undef, undef, undef, undef, undef, undef, undef, undef].getD i_ undef), rfl, rfl, Nat.zero_le _, (fun i hi => absurd hi (Nat.not_lt_zero i)), H_⟩) ?_
    intro m_ tm_ IH3
    refine rs_ex fun k => rs_ex fun y2 => rs_and fun hm_ => rs_and fun ht_ => rs_and fun hk => rs_and fun hs => ?_
    subst hm_; subst ht_
    refine fl_seq ?_
    refine fl_seq ?_
    refine rl_start ?_
    refine rl_det (met_none rfl) (fun h_ H_ => exd_move (v := .int .i64 (((k : Nat) : Int))) rfl) (tm' := _::_::_::_::_::_::_::_::_::_::_::_::_) rfl ?_
    refine rl_det (met_none rfl) (fun h_ H_ => exd_move (v := .slice a m c) rfl) (tm' := _::_::_::_::_::_::_::_::_::_::_::_::_::_) rfl ?_
    refine rl_det (met_none rfl) (fun h_ H_ => exd_len Try.underlying25 rfl) (tm' := _::_::_::_::_::_::_::_::_::_::_::_::_::_::_) rfl ?_
    refine rl_det (met_none rfl) (fun h_ H_ => exd_lss rfl rfl) (tm' := _::_::_::_::_::_::_::_::_::_::_::_::_::_::_::_) rfl ?_
    refine rl_end ?_
    by_cases cc4 : ((k : Nat) : Int) < ((m : Nat) : Int)
    · refine fl_then rfl (decide_eq_true cc4) ?_
      refine fl_skip ?_
      refine fl_seq ?_
      refine fl_block ?_
      refine fl_seq ?_
      refine fl_drawn 8 [[], [], [0, 1], [0, 1, 2], [], [], [4, 5], [4, 5, 6], []] mixed (by kernel_rfl) (Nat.le_of_ble_eq_true rfl) (tmF := [.slice a m c, .slice b n d, undef, undef, (y2 0), .int .i64 (((k : Nat) : Int)), .slice a m c, .int .i64 (((m : Nat) : Int)), .slice b n d, .int .i64 (((n : Nat) : Int)), .bool (decide (((m : Nat) : Int) ≠ ((n : Nat) : Int))), .int .i64 (((k : Nat) : Int)), .slice a m c, .int .i64 (((m : Nat) : Int)), .bool (decide (((k : Nat) : Int) < ((m : Nat) : Int))), (y2 5), (y2 6), .slice a m c, .int .i64 (((k : Nat) : Int)), .pointer (some ((adr a).add (k * 1))), .int .i64 (xs.getD k 0), .slice b n d, .int .i64 (((k : Nat) : Int)), .pointer (some ((adr b).add (k * 1))), .int .i64 (ys.getD k 0), (y2 15)]) ?_ ?_
      · refine sw_det (met_none rfl) (fun h_ H_ => exd_move (v := .slice a m c) rfl) (tm' := [_,_,_,_,_,_,_,_,_,_,_,_,_,_,_,_,_,_,_,_,_,_,_,_,_,_]) rfl ?_
        refine sw_det (met_none rfl) (fun h_ H_ => exd_move (v := .int .i64 (((k : Nat) : Int))) rfl) (tm' := [_,_,_,_,_,_,_,_,_,_,_,_,_,_,_,_,_,_,_,_,_,_,_,_,_,_]) rfl ?_
        refine sw_det (met_none rfl) (fun h_ H_ => exd_indexAddrN (i := k) Try.underlying25 tS3 (sl_ne a m c (A.ne (by omega))) rfl (by omega)) (tm' := [_,_,_,_,_,_,_,_,_,_,_,_,_,_,_,_,_,_,_,_,_,_,_,_,_,_]) rfl ?_
        refine sw_det (met_none rfl) (fun h_ H_ => exd_load_per H_ tA3 rfl (v := .int .i64 (xs.getD k 0)) (A.get (by omega))) (tm' := [_,_,_,_,_,_,_,_,_,_,_,_,_,_,_,_,_,_,_,_,_,_,_,_,_,_]) rfl ?_
        refine sw_det (met_none rfl) (fun h_ H_ => exd_move (v := .slice b n d) rfl) (tm' := [_,_,_,_,_,_,_,_,_,_,_,_,_,_,_,_,_,_,_,_,_,_,_,_,_,_]) rfl ?_
        refine sw_det (met_none rfl) (fun h_ H_ => exd_move (v := .int .i64 (((k : Nat) : Int))) rfl) (tm' := [_,_,_,_,_,_,_,_,_,_,_,_,_,_,_,_,_,_,_,_,_,_,_,_,_,_]) rfl ?_
        refine sw_det (met_none rfl) (fun h_ H_ => exd_indexAddrN (i := k) Try.underlying25 tS3 (sl_ne b n d (B.ne (by omega))) rfl (by omega)) (tm' := [_,_,_,_,_,_,_,_,_,_,_,_,_,_,_,_,_,_,_,_,_,_,_,_,_,_]) rfl ?_
        refine sw_det (met_none rfl) (fun h_ H_ => exd_load_per H_ tA3 rfl (v := .int .i64 (ys.getD k 0)) (B.get (by omega))) (tm' := [_,_,_,_,_,_,_,_,_,_,_,_,_,_,_,_,_,_,_,_,_,_,_,_,_,_]) rfl ?_
        exact sw_nil rfl rfl
      refine rl_det (met_none rfl) (fun h_ H_ => exd_neq rfl rfl) (tm' := [_,_,_,_,_,_,_,_,_,_,_,_,_,_,_,_,_,_,_,_,_,_,_,_,_,_]) rfl ?_
      refine rl_end ?_
      by_cases cc5 : xs.getD k 0 ≠ ys.getD k 0
      · refine fl_then rfl (decide_eq_true cc5) ?_
        refine fl_seq ?_
        refine rl_start ?_
        refine rl_det (met_none rfl) (fun h_ H_ => exd_assign (v := .bool (false)) rfl) (tm' := _::_::_::_::_::_) rfl ?_
        refine rl_end ?_
        refine fl_ret Try.func36 rfl (vs := [.bool (false)]) (fun h_ H_ => ⟨.bool (false), _, rfl, rfl, rfl⟩) (v := .bool (false)) rfl ?_
        exact fun h_ H_ => K _ _ ⟨by first | exact same_no A.len B.len (by omega) | exact same_not ‹_› | exact same_yes A.len B.len (by omega) (by omega) hs, H_.kept⟩
      · refine fl_else rfl (decide_eq_false cc5) ?_
        refine fl_skip ?_
        refine fl_inBlock ?_
        refine rl_start ?_
        refine rl_det (met_none rfl) (fun h_ H_ => exd_move (v := .int .i64 (((k : Nat) : Int))) rfl) (tm' := _::_::_::_::_::_::_::_::_::_::_::_::_::_::_::_::_) rfl ?_
        refine rl_det (met_none rfl) (fun h_ H_ => exd_add rfl rfl (n := ((k + 1 : Nat) : Int)) (wr (by omega))) (tm' := _::_::_::_::_::_::_::_::_::_::_::_::_::_::_::_::_::_) rfl ?_
        refine rl_det (met_none rfl) (fun h_ H_ => exd_assign (v := .int .i64 (((k + 1 : Nat) : Int))) rfl) (tm' := _::_::_::_::_::_::_) rfl ?_
        refine rl_end ?_
        exact fun h_ H_ => IH3 _ _ (by omega) h_ ⟨k + 1, (fun i_ => [(y2 0), .int .i64 (((k : Nat) : Int)), .slice a m c, .int .i64 (((m : Nat) : Int)), .bool (decide (((k : Nat) : Int) < ((m : Nat) : Int))), .int .i64 (((k : Nat) : Int)), .int .i64 (((k + 1 : Nat) : Int)), .slice a m c, .int .i64 (((k : Nat) : Int)), .pointer (some ((adr a).add (k * 1))), .int .i64 (xs.getD k 0), .slice b n d, .int .i64 (((k : Nat) : Int)), .pointer (some ((adr b).add (k * 1))), .int .i64 (ys.getD k 0), .bool (decide (xs.getD k 0 ≠ ys.getD k 0))].getD i_ undef), rfl, rfl, (by omega), (same_step hs (by omega)), H_⟩
    · refine fl_else rfl (decide_eq_false cc4) ?_
      refine fl_exit rfl ?_
      refine fl_seq ?_
      refine rl_start ?_
      refine rl_det (met_none rfl) (fun h_ H_ => exd_assign (v := .bool (true)) rfl) (tm' := _::_::_::_::_::_) rfl ?_
      refine rl_end ?_
      refine fl_ret Try.func36 rfl (vs := [.bool (true)]) (fun h_ H_ => ⟨.bool (true), _, rfl, rfl, rfl⟩) (v := .bool (true)) rfl ?_
      exact fun h_ H_ => K _ _ ⟨by first | exact same_no A.len B.len (by omega) | exact same_not ‹_› | exact same_yes A.len B.len (by omega) (by omega) hs, H_.kept⟩
end Go.Proofs.Ytbmkacnlhlbnjaa
namespace Go.Proofs.Ytbmkacnlhlbnjaa
open Go.X Go.X.Cist Go.Conc
set_option maxRecDepth 10000

theorem c60 (md : Md) (h : Heap) (n lo hi : Int) : CallsX Try.prog md 60 #[.int .i64 (n), .int .i64 (lo), .int .i64 (hi)] h fun v h' => v = .bool (decide (lo ≤ n ∧ n ≤ hi)) ∧ Keep h h' := by
  refine calls_intro (Φ := fun h_ => St h [] (fun _ => none) h_ []) Try.func60 rfl (tm := [_, _, _, _, _, _, _, _, _, _, _]) rfl ?_ (St.start h _ (fun _ _ e => by cases e))
  intro c₀ cs Stop K
  refine fl_seq ?_
  refine rl_start ?_
  refine rl_det (met_none rfl) (fun h_ H_ => exd_assign (v := .bool (false)) rfl) rfl ?_
  refine rl_end ?_
  refine fl_seq ?_
  refine rl_start ?_
  refine rl_det (met_none rfl) (fun h_ H_ => exd_move (v := .int .i64 (n)) rfl) rfl ?_
  refine rl_det (met_none rfl) (fun h_ H_ => exd_move (v := .int .i64 (lo)) rfl) (tm' := [_,_,_,_,_,_,_,_,_,_,_]) rfl ?_
  refine rl_det (met_none rfl) (fun h_ H_ => exd_move (v := .int .i64 (hi)) rfl) rfl ?_
  refine rl_calld (met_none rfl) (first := []) (cap := []) rfl rfl fC22 (fun h_ H_ => c22 md _ (n) (lo) (hi)) rfl ?_
  refine rl_det (met_none rfl) (fun h_ H_ => exd_assign (v := .bool (decide (lo ≤ n ∧ n ≤ hi))) rfl) (tm' := _::_::_::_::_::_::_::_) rfl ?_
  refine rl_end ?_
  refine fl_ret Try.func60 rfl (vs := [.bool (decide (lo ≤ n ∧ n ≤ hi))]) (fun h_ H_ => ⟨.bool (decide (lo ≤ n ∧ n ≤ hi)), _, rfl, rfl, rfl⟩) (v := .bool (decide (lo ≤ n ∧ n ≤ hi))) rfl ?_
  exact fun h_ H_ => K _ _ ⟨rfl, H_.kept⟩
theorem c70 (md : Md) (h : Heap) (n lo hi : Int) : CallsX Try.prog md 70 #[.int .i64 (n), .int .i64 (lo), .int .i64 (hi)] h fun v h' => v = .bool (decide (lo ≤ n ∧ n ≤ hi)) ∧ Keep h h' := by
  refine calls_intro (Φ := fun h_ => St h [] (fun _ => none) h_ []) Try.func70 rfl (tm := [_, _, _, _, _, _, _, _, _, _, _, _, _, _, _]) rfl ?_ (St.start h _ (fun _ _ e => by cases e))
  intro c₀ cs Stop K
  refine fl_seq ?_
  refine rl_start ?_
  refine rl_det (met_none rfl) (fun h_ H_ => exd_assign (v := .bool (false)) rfl) rfl ?_
  refine rl_end ?_
  refine fl_seq ?_
  refine rl_start ?_
  refine rl_det (met_none rfl) (fun h_ H_ => exd_move (v := .int .i64 (n)) rfl) rfl ?_
  refine rl_det (met_none rfl) (fun h_ H_ => exd_move (v := .int .i64 (lo)) rfl) (tm' := _::_::_::_::_::_::_::_::_::_) rfl ?_
  refine rl_det (met_none rfl) (fun h_ H_ => exd_geq rfl rfl) rfl ?_
  refine rl_det (met_none rfl) (fun h_ H_ => exd_move (v := .bool (decide (lo ≤ n))) rfl) rfl ?_
  by_cases cc1 : lo ≤ n
  · refine rl_det (met_some rfl rfl (decide_eq_true cc1)) (fun h_ H_ => exd_move (v := .int .i64 (n)) rfl) (tm' := [_,_,_,_,_,_,_,_,_,_,_,_,_,_,_]) rfl ?_
    refine rl_det (met_some rfl rfl (decide_eq_true cc1)) (fun h_ H_ => exd_move (v := .int .i64 (hi)) rfl) rfl ?_
    refine rl_det (met_some rfl rfl (decide_eq_true cc1)) (fun h_ H_ => exd_leq rfl rfl) rfl ?_
    refine rl_det (met_none rfl) (fun h_ H_ => exd_pick_t rfl (decide_eq_true cc1) (v := .bool (decide (n ≤ hi))) rfl) (tm' := [_,_,_,_,_,_,_,_,_,_,_,_,_,_,_]) rfl ?_
    refine rl_det (met_none rfl) (fun h_ H_ => exd_assign (v := .bool (decide (n ≤ hi))) rfl) rfl ?_
    refine rl_end ?_
    refine fl_ret Try.func70 rfl (vs := [.bool (decide (n ≤ hi))]) (fun h_ H_ => ⟨.bool (decide (n ≤ hi)), _, rfl, rfl, rfl⟩) (v := .bool (decide (n ≤ hi))) rfl ?_
    exact fun h_ H_ => K _ _ ⟨by simp [*], H_.kept⟩
  · refine rl_pass (met_not rfl rfl (decide_eq_false cc1)) rfl ?_
    refine rl_pass (met_not rfl rfl (decide_eq_false cc1)) (tm' := [_,_,_,_,_,_,_,_,_,_,_,_,_,_,_]) rfl ?_
    refine rl_pass (met_not rfl rfl (decide_eq_false cc1)) rfl ?_
    refine rl_det (met_none rfl) (fun h_ H_ => exd_pick_f rfl (decide_eq_false cc1) (v := .bool (false)) rfl) rfl ?_
    refine rl_det (met_none rfl) (fun h_ H_ => exd_assign (v := .bool (false)) rfl) (tm' := _::_::_::_::_::_::_::_) rfl ?_
    refine rl_end ?_
    refine fl_ret Try.func70 rfl (vs := [.bool (false)]) (fun h_ H_ => ⟨.bool (false), _, rfl, rfl, rfl⟩) (v := .bool (false)) rfl ?_
    exact fun h_ H_ => K _ _ ⟨by simp [*], H_.kept⟩
theorem c26 (md : Md) (h : Heap) (p : PHeap) (hp : Per p h) (size start : Int) (a : Option Addr) (n c : Nat) (ds : List Day) (D : Days p a n ds) (hn : n ≤ 40) (m : Int) : CallsX Try.prog md 26 #[.agg #[.int .i64 (size), .int .i64 (start), .slice a n c], .int .i64 (m)] h fun v h' => v = .bool (decide (IsDay ds m)) ∧ Keep h h' := by
  refine calls_intro (Φ := fun h_ => St h [] p h_ []) Try.func26 rfl (tm := [_, _, _, _, _, _, _, _, _, _, _]) rfl ?_ (St.start h _ hp)
  intro c₀ cs Stop K
  refine fl_seq ?_
  refine rl_start ?_
  refine rl_box (met_none rfl) (v := .agg #[.int .i64 (size), .int .i64 (start), .slice a n c]) rfl fun b1 => rl_own (L' := [(b1, .cells #[.int .i64 (size), .int .i64 (start), .slice a n c] 24 (0, 0))]) rfl ?_
  refine rl_det (met_none rfl) (fun h_ H_ => exd_assign (v := .bool (false)) rfl) rfl ?_
  refine rl_end ?_
  refine fl_seq ?_
  refine rl_start ?_
  refine rl_det (met_none rfl) (fun h_ H_ => exd_move (v := .int .i64 (m)) rfl) (tm' := _::_::_::_::_::_::_) rfl ?_
  refine rl_det (met_none rfl) (fun h_ H_ => exd_fieldAddr tF24_2 rfl (a' := ⟨b1, 2, none⟩) rfl) rfl ?_
  refine rl_det (met_none rfl) (fun h_ H_ => exd_load_own H_ tA22 rfl (i := 0) rfl (v := .slice a n c) rfl) rfl ?_
  refine rl_det (met_none rfl) (fun h_ H_ => exd_len Try.underlying22 rfl) (tm' := [_,_,_,_,_,_,_,_,_,_,_]) rfl ?_
  refine rl_det (met_none rfl) (fun h_ H_ => exd_sub rfl rfl (wr (by omega))) rfl ?_
  refine rl_calld (met_none rfl) (first := []) (cap := []) rfl rfl fC60 (fun h_ H_ => c60 md _ (m) (0) (((n : Nat) : Int) - 1)) rfl ?_
  refine rl_det (met_none rfl) (fun h_ H_ => exd_assign (v := .bool (decide (0 ≤ m ∧ m ≤ ((n : Nat) : Int) - 1))) rfl) (tm' := _::_::_::_::_::_) rfl ?_
  refine rl_end ?_
  refine fl_ret Try.func26 rfl (vs := [.bool (decide (0 ≤ m ∧ m ≤ ((n : Nat) : Int) - 1))]) (fun h_ H_ => ⟨.bool (decide (0 ≤ m ∧ m ≤ ((n : Nat) : Int) - 1)), _, rfl, rfl, rfl⟩) (v := .bool (decide (0 ≤ m ∧ m ≤ ((n : Nat) : Int) - 1))) rfl ?_
  exact fun h_ H_ => K _ _ ⟨by rw [decide_eq_decide.2 (isDay_iff D.len)], H_.kept⟩
theorem c66 (md : Md) (h : Heap) (p : PHeap) (hp : Per p h) (size start : Int) (a : Option Addr) (n c : Nat) (ds : List Day) (D : Days p a n ds) (hn : n ≤ 40) (m : Int) : CallsX Try.prog md 66 #[.agg #[.int .i64 (size), .int .i64 (start), .slice a n c], .int .i64 (m)] h fun v h' => v = .bool (decide (IsDay ds m)) ∧ Keep h h' := by
  refine calls_intro (Φ := fun h_ => St h [] p h_ []) Try.func66 rfl (tm := [_, _, _, _, _, _, _, _, _, _, _]) rfl ?_ (St.start h _ hp)
  intro c₀ cs Stop K
  refine fl_seq ?_
  refine rl_start ?_
  refine rl_box (met_none rfl) (v := .agg #[.int .i64 (size), .int .i64 (start), .slice a n c]) rfl fun b1 => rl_own (L' := [(b1, .cells #[.int .i64 (size), .int .i64 (start), .slice a n c] 24 (0, 0))]) rfl ?_
  refine rl_det (met_none rfl) (fun h_ H_ => exd_assign (v := .bool (false)) rfl) rfl ?_
  refine rl_end ?_
  refine fl_seq ?_
  refine rl_start ?_
  refine rl_det (met_none rfl) (fun h_ H_ => exd_move (v := .int .i64 (m)) rfl) (tm' := _::_::_::_::_::_::_) rfl ?_
  refine rl_det (met_none rfl) (fun h_ H_ => exd_fieldAddr tF24_2 rfl (a' := ⟨b1, 2, none⟩) rfl) rfl ?_
  refine rl_det (met_none rfl) (fun h_ H_ => exd_load_own H_ tA22 rfl (i := 0) rfl (v := .slice a n c) rfl) rfl ?_
  refine rl_det (met_none rfl) (fun h_ H_ => exd_len Try.underlying22 rfl) (tm' := [_,_,_,_,_,_,_,_,_,_,_]) rfl ?_
  refine rl_det (met_none rfl) (fun h_ H_ => exd_sub rfl rfl (wr (by omega))) rfl ?_
  refine rl_calld (met_none rfl) (first := []) (cap := []) rfl rfl fC70 (fun h_ H_ => c70 md _ (m) (0) (((n : Nat) : Int) - 1)) rfl ?_
  refine rl_det (met_none rfl) (fun h_ H_ => exd_assign (v := .bool (decide (0 ≤ m ∧ m ≤ ((n : Nat) : Int) - 1))) rfl) (tm' := _::_::_::_::_::_) rfl ?_
  refine rl_end ?_
  refine fl_ret Try.func66 rfl (vs := [.bool (decide (0 ≤ m ∧ m ≤ ((n : Nat) : Int) - 1))]) (fun h_ H_ => ⟨.bool (decide (0 ≤ m ∧ m ≤ ((n : Nat) : Int) - 1)), _, rfl, rfl, rfl⟩) (v := .bool (decide (0 ≤ m ∧ m ≤ ((n : Nat) : Int) - 1))) rfl ?_
  exact fun h_ H_ => K _ _ ⟨by rw [decide_eq_decide.2 (isDay_iff D.len)], H_.kept⟩
theorem c33 (md : Md) (h : Heap) (p : PHeap) (hp : Per p h) (size start : Int) (a : Option Addr) (n c : Nat) (ds : List Day) (D : Days p a n ds) (hn : n ≤ 40) : CallsX Try.prog md 33 #[.agg #[.int .i64 (size), .int .i64 (start), .slice a n c]] h fun v h' => v = .int .i64 (chk size start ds) ∧ Keep h h' := by
  refine calls_intro (Φ := fun h_ => St h [] p h_ []) Try.func33 rfl (tm := [_, _, _, _, _, _, _, _, _, _, _, _, _, _, _, _, _, _, _, _, _, _, _, _, _, _, _, _, _, _, _, _, _, _, _, _, _, _, _, _, _, _, _, _, _, _, _, _, _, _, _, _, _, _, _, _]) rfl ?_ (St.start h _ hp)
  intro c₀ cs Stop K
  refine fl_seq ?_
  refine rl_start ?_
  refine rl_box (met_none rfl) (v := .agg #[.int .i64 (size), .int .i64 (start), .slice a n c]) rfl fun b1 => rl_own (L' := [(b1, .cells #[.int .i64 (size), .int .i64 (start), .slice a n c] 24 (0, 0))]) rfl ?_
  refine rl_det (met_none rfl) (fun h_ H_ => exd_assign (v := .int .i64 0) rfl) rfl ?_
  refine rl_end ?_
  refine fl_seq ?_
  refine fl_seq ?_
  refine rl_start ?_
  refine rl_det (met_none rfl) (fun h_ H_ => exd_fieldAddr tF24_0 rfl (a' := ⟨b1, 0, none⟩) rfl) (tm' := _::_::_::_::_::_::_) rfl ?_
  refine rl_det (met_none rfl) (fun h_ H_ => exd_load_own H_ tA3 rfl (i := 0) rfl (v := .int .i64 (size)) rfl) rfl ?_
  refine rl_calld (met_none rfl) (first := []) (cap := []) rfl rfl fC60 (fun h_ H_ => c60 md _ (size) (0) (60)) rfl ?_
  refine rl_det (met_none rfl) (fun h_ H_ => exd_not rfl) (tm' := _::_::_::_::_::_::_::_::_::_) rfl ?_
  refine rl_det (met_none rfl) (fun h_ H_ => exd_move (v := .bool (!(decide (0 ≤ size ∧ size ≤ 60)))) rfl) rfl ?_
  by_cases cc2 : 0 ≤ size ∧ size ≤ 60
  · refine rl_det (met_some rfl rfl (not_f (decide_eq_true cc2))) (fun h_ H_ => exd_fieldAddr tF24_1 rfl (a' := ⟨b1, 1, none⟩) rfl) rfl ?_
    refine rl_det (met_some rfl rfl (not_f (decide_eq_true cc2))) (fun h_ H_ => exd_load_own H_ tA3 rfl (i := 0) rfl (v := .int .i64 (start)) rfl) (tm' := _::_::_::_::_::_::_::_::_::_::_::_::_) rfl ?_
    refine rl_det (met_some rfl rfl (not_f (decide_eq_true cc2))) (fun h_ H_ => exd_fieldAddr tF24_0 rfl (a' := ⟨b1, 0, none⟩) rfl) rfl ?_
    refine rl_det (met_some rfl rfl (not_f (decide_eq_true cc2))) (fun h_ H_ => exd_load_own H_ tA3 rfl (i := 0) rfl (v := .int .i64 (size)) rfl) rfl ?_
    refine rl_calld (met_some rfl rfl (not_f (decide_eq_true cc2))) (first := []) (cap := []) rfl rfl fC60 (fun h_ H_ => c60 md _ (start) (0) (size)) (tm' := _::_::_::_::_::_::_::_::_::_::_::_::_::_::_::_) rfl ?_
    refine rl_det (met_some rfl rfl (not_f (decide_eq_true cc2))) (fun h_ H_ => exd_not rfl) rfl ?_
    refine rl_det (met_none rfl) (fun h_ H_ => exd_pick_f rfl (not_f (decide_eq_true cc2)) (v := .bool (!(decide (0 ≤ start ∧ start ≤ size)))) rfl) rfl ?_
    refine rl_det (met_none rfl) (fun h_ H_ => exd_move (v := .bool (!(decide (0 ≤ start ∧ start ≤ size)))) rfl) (tm' := _::_::_::_::_::_::_::_::_::_::_::_::_::_::_::_::_::_::_) rfl ?_
    by_cases cc3 : 0 ≤ start ∧ start ≤ size
    · refine rl_det (met_some rfl rfl (not_f (decide_eq_true cc3))) (fun h_ H_ => exd_fieldAddr tF24_2 rfl (a' := ⟨b1, 2, none⟩) rfl) rfl ?_
      refine rl_det (met_some rfl rfl (not_f (decide_eq_true cc3))) (fun h_ H_ => exd_load_own H_ tA22 rfl (i := 0) rfl (v := .slice a n c) rfl) rfl ?_
      refine rl_det (met_some rfl rfl (not_f (decide_eq_true cc3))) (fun h_ H_ => exd_len Try.underlying22 rfl) (tm' := _::_::_::_::_::_::_::_::_::_::_::_::_::_::_::_::_::_::_::_::_::_) rfl ?_
      refine rl_det (met_some rfl rfl (not_f (decide_eq_true cc3))) (fun h_ H_ => exd_gtr rfl rfl) rfl ?_
      refine rl_det (met_none rfl) (fun h_ H_ => exd_pick_f rfl (not_f (decide_eq_true cc3)) (v := .bool (decide (8 < ((n : Nat) : Int)))) rfl) rfl ?_
      refine rl_end ?_
      by_cases cc4 : 8 < ((n : Nat) : Int)
      · refine fl_then rfl (decide_eq_true cc4) ?_
        refine fl_seq ?_
        refine rl_start ?_
        refine rl_det (met_none rfl) (fun h_ H_ => exd_assign (v := .int .i64 100) rfl) (tm' := _::_::_::_) rfl ?_
        refine rl_end ?_
        refine fl_ret Try.func33 rfl (vs := [.int .i64 100]) (fun h_ H_ => ⟨.int .i64 100, _, rfl, rfl, rfl⟩) (v := .int .i64 100) rfl ?_
        have hl := D.len
        exact fun h_ H_ => K _ _ ⟨by first | (rw [chk_yes ⟨by omega, by omega, by omega, by omega, by omega, fun i hi => hs i (by omega)⟩]) | (rw [chk_no (fun e => by have := e.2.2.2.2.2 k (by omega); unfold Ok DayOk at *; omega)]) | (rw [chk_no (fun e => by unfold Ok at e; omega)]), H_.kept⟩
      · refine fl_else rfl (decide_eq_false cc4) ?_
        refine fl_skip ?_
        refine fl_seq ?_
        refine fl_seq ?_
        refine rl_start ?_
        refine rl_det (met_none rfl) (fun h_ H_ => exd_assign (v := .int .i64 0) rfl) rfl ?_
        refine rl_end ?_
        refine fl_block ?_
        refine fl_loop (m₀ := n - 0) (fun m_ tm_ h_ => ∃ (k : Nat), m_ = n - k ∧ (∃ y5 : Nat → Value, tm_ = [.agg #[.int .i64 (size), .int .i64 (start), .slice a n c], .pointer (some ⟨b1, 0, none⟩), (y5 2), .int .i64 (((k : Nat) : Int)), (y5 4), .pointer (some ⟨b1, 0, none⟩), .int .i64 (size), .bool (decide (0 ≤ size ∧ size ≤ 60)), .bool (!(decide (0 ≤ size ∧ size ≤ 60))), .bool (!(decide (0 ≤ size ∧ size ≤ 60))), .pointer (some ⟨b1, 1, none⟩), .int .i64 (start), .pointer (some ⟨b1, 0, none⟩), .int .i64 (size), .bool (decide (0 ≤ start ∧ start ≤ size)), .bool (!(decide (0 ≤ start ∧ start ≤ size))), .bool (!(decide (0 ≤ start ∧ start ≤ size))), .bool (!(decide (0 ≤ start ∧ start ≤ size))), .pointer (some ⟨b1, 2, none⟩), .slice a n c, .int .i64 (((n : Nat) : Int)), .bool (decide (8 < ((n : Nat) : Int))), .bool (decide (8 < ((n : Nat) : Int))), (y5 23), (y5 24), (y5 25), (y5 26), (y5 27), (y5 28), (y5 29), (y5 30), (y5 31), (y5 32), (y5 33), (y5 34), (y5 35), (y5 36), (y5 37), (y5 38), (y5 39), (y5 40), (y5 41), (y5 42), (y5 43), (y5 44), (y5 45), (y5 46), (y5 47), (y5 48), (y5 49), (y5 50), (y5 51), (y5 52), (y5 53), (y5 54), (y5 55)]) ∧ (k ≤ n) ∧ (∀ i, i < k → DayOk (ds.getD i dz)) ∧ St h [] p h_ ([(b1, .cells #[.int .i64 (size), .int .i64 (start), .slice a n c] 24 (0, 0))])) (fun h_ H_ => ⟨0, rfl, (y_of rfl), Nat.zero_le _, (fun i hi => absurd hi (Nat.not_lt_zero i)), H_⟩) ?_
        intro m_ tm_ IH6
        refine rs_ex fun k => rs_and fun hm_ => rs_and fun ht_ => rs_and fun hk => rs_and fun hs => ?_
        subst hm_; obtain ⟨y5, ht_⟩ := ht_; subst ht_
        refine fl_seq ?_
        refine fl_seq ?_
        refine rl_start ?_
        refine rl_det (met_none rfl) (fun h_ H_ => exd_move (v := .int .i64 (((k : Nat) : Int))) rfl) rfl ?_
        refine rl_det (met_none rfl) (fun h_ H_ => exd_fieldAddr tF24_2 rfl (a' := ⟨b1, 2, none⟩) rfl) (tm' := _::_::_::_::_::_::_::_::_::_::_::_::_::_::_::_::_::_::_::_::_::_::_::_::_::_) rfl ?_
        refine rl_det (met_none rfl) (fun h_ H_ => exd_load_own H_ tA22 rfl (i := 0) rfl (v := .slice a n c) rfl) rfl ?_
        refine rl_det (met_none rfl) (fun h_ H_ => exd_len Try.underlying22 rfl) rfl ?_
        refine rl_det (met_none rfl) (fun h_ H_ => exd_lss rfl rfl) (tm' := _::_::_::_::_::_::_::_::_::_::_::_::_::_::_::_::_::_::_::_::_::_::_::_::_::_::_::_::_) rfl ?_
        refine rl_end ?_
        by_cases cc7 : ((k : Nat) : Int) < ((n : Nat) : Int)
        · refine fl_then rfl (decide_eq_true cc7) ?_
          refine fl_skip ?_
          refine fl_seq ?_
          refine fl_block ?_
          refine fl_seq ?_
          refine rl_start ?_
          refine rl_det (met_none rfl) (fun h_ H_ => exd_fieldAddr tF24_2 rfl (a' := ⟨b1, 2, none⟩) rfl) rfl ?_
          refine rl_det (met_none rfl) (fun h_ H_ => exd_load_own H_ tA22 rfl (i := 0) rfl (v := .slice a n c) rfl) rfl ?_
          refine rl_det (met_none rfl) (fun h_ H_ => exd_move (v := .int .i64 (((k : Nat) : Int))) rfl) (tm' := _::_::_::_::_::_::_::_::_::_::_::_::_::_::_::_::_::_::_::_::_::_::_::_::_::_::_::_::_::_::_::_::_::_) rfl ?_
          refine rl_det (met_none rfl) (fun h_ H_ => exd_indexAddrN (i := k) Try.underlying22 tS38 (sl_ne a n c (D.ne (by omega))) rfl (by omega)) rfl ?_
          refine rl_det (met_none rfl) (fun h_ H_ => exd_loadN_per H_ tA38 tS38 rfl (vs := [.int .i64 ((ds.getD k dz).lo), .int .i64 ((ds.getD k dz).hi), .int .i64 ((ds.getD k dz).want)]) rfl (D.all (by omega))) rfl ?_
          refine rl_alloc (met_none rfl) tZ38 rfl fun b8 => rl_own (L' := [(b8, .cells #[.int .i64 0, .int .i64 0, .int .i64 0] 38 (0, 0)), (b1, .cells #[.int .i64 (size), .int .i64 (start), .slice a n c] 24 (0, 0))]) rfl ?_
          refine rl_norm (tm' := _::_::_::_::_::_) rfl ?_
          refine rl_store (met_none rfl) tS38 rfl (v := .agg #[.int .i64 ((ds.getD k dz).lo), .int .i64 ((ds.getD k dz).hi), .int .i64 ((ds.getD k dz).want)]) rfl (i := 0) rfl rfl rfl (Nat.le_of_ble_eq_true rfl) (cs2 := [.int .i64 ((ds.getD k dz).lo), .int .i64 ((ds.getD k dz).hi), .int .i64 ((ds.getD k dz).want)]) rfl (rl_own (L' := [(b8, .cells #[.int .i64 ((ds.getD k dz).lo), .int .i64 ((ds.getD k dz).hi), .int .i64 ((ds.getD k dz).want)] 38 (0, 0)), (b1, .cells #[.int .i64 (size), .int .i64 (start), .slice a n c] 24 (0, 0))]) rfl ?_)
          refine rl_end ?_
          refine fl_seq ?_
          refine rl_start ?_
          refine rl_det (met_none rfl) (fun h_ H_ => exd_fieldAddr tF38_0 rfl (a' := ⟨b8, 0, none⟩) rfl) rfl ?_
          refine rl_det (met_none rfl) (fun h_ H_ => exd_fieldAddr tF36_0 rfl (a' := ⟨b8, 0, none⟩) rfl) rfl ?_
          refine rl_det (met_none rfl) (fun h_ H_ => exd_load_own H_ tA3 rfl (i := 0) rfl (v := .int .i64 ((ds.getD k dz).lo)) rfl) (tm' := [_,_,_,_,_,_,_,_,_,_,_,_,_,_,_,_,_,_,_,_,_,_,_,_,_,_,_,_,_,_,_,_,_,_,_,_,_,_,_,_,_,_,_,_,_,_,_,_,_,_,_,_,_,_,_,_]) rfl ?_
          refine rl_calld (met_none rfl) (first := []) (cap := []) rfl rfl fC60 (fun h_ H_ => c60 md _ ((ds.getD k dz).lo) (0) (20)) rfl ?_
          refine rl_det (met_none rfl) (fun h_ H_ => exd_not rfl) rfl ?_
          refine rl_det (met_none rfl) (fun h_ H_ => exd_move (v := .bool (!(decide (0 ≤ (ds.getD k dz).lo ∧ (ds.getD k dz).lo ≤ 20)))) rfl) (tm' := [_,_,_,_,_,_,_,_,_,_,_,_,_,_,_,_,_,_,_,_,_,_,_,_,_,_,_,_,_,_,_,_,_,_,_,_,_,_,_,_,_,_,_,_,_,_,_,_,_,_,_,_,_,_,_,_]) rfl ?_
          by_cases cc9 : 0 ≤ (ds.getD k dz).lo ∧ (ds.getD k dz).lo ≤ 20
          · refine rl_det (met_some rfl rfl (not_f (decide_eq_true cc9))) (fun h_ H_ => exd_fieldAddr tF38_0 rfl (a' := ⟨b8, 0, none⟩) rfl) rfl ?_
            refine rl_det (met_some rfl rfl (not_f (decide_eq_true cc9))) (fun h_ H_ => exd_fieldAddr tF36_1 rfl (a' := ⟨b8, 1, none⟩) rfl) rfl ?_
            refine rl_det (met_some rfl rfl (not_f (decide_eq_true cc9))) (fun h_ H_ => exd_load_own H_ tA3 rfl (i := 0) rfl (v := .int .i64 ((ds.getD k dz).hi)) rfl) (tm' := [_,_,_,_,_,_,_,_,_,_,_,_,_,_,_,_,_,_,_,_,_,_,_,_,_,_,_,_,_,_,_,_,_,_,_,_,_,_,_,_,_,_,_,_,_,_,_,_,_,_,_,_,_,_,_,_]) rfl ?_
            refine rl_det (met_some rfl rfl (not_f (decide_eq_true cc9))) (fun h_ H_ => exd_fieldAddr tF38_0 rfl (a' := ⟨b8, 0, none⟩) rfl) rfl ?_
            refine rl_det (met_some rfl rfl (not_f (decide_eq_true cc9))) (fun h_ H_ => exd_fieldAddr tF36_0 rfl (a' := ⟨b8, 0, none⟩) rfl) rfl ?_
            refine rl_det (met_some rfl rfl (not_f (decide_eq_true cc9))) (fun h_ H_ => exd_load_own H_ tA3 rfl (i := 0) rfl (v := .int .i64 ((ds.getD k dz).lo)) rfl) (tm' := [_,_,_,_,_,_,_,_,_,_,_,_,_,_,_,_,_,_,_,_,_,_,_,_,_,_,_,_,_,_,_,_,_,_,_,_,_,_,_,_,_,_,_,_,_,_,_,_,_,_,_,_,_,_,_,_]) rfl ?_
            refine rl_calld (met_some rfl rfl (not_f (decide_eq_true cc9))) (first := []) (cap := []) rfl rfl fC60 (fun h_ H_ => c60 md _ ((ds.getD k dz).hi) ((ds.getD k dz).lo) (20)) rfl ?_
            refine rl_det (met_some rfl rfl (not_f (decide_eq_true cc9))) (fun h_ H_ => exd_not rfl) rfl ?_
            refine rl_det (met_none rfl) (fun h_ H_ => exd_pick_f rfl (not_f (decide_eq_true cc9)) (v := .bool (!(decide ((ds.getD k dz).lo ≤ (ds.getD k dz).hi ∧ (ds.getD k dz).hi ≤ 20)))) rfl) (tm' := [_,_,_,_,_,_,_,_,_,_,_,_,_,_,_,_,_,_,_,_,_,_,_,_,_,_,_,_,_,_,_,_,_,_,_,_,_,_,_,_,_,_,_,_,_,_,_,_,_,_,_,_,_,_,_,_]) rfl ?_
            refine rl_det (met_none rfl) (fun h_ H_ => exd_move (v := .bool (!(decide ((ds.getD k dz).lo ≤ (ds.getD k dz).hi ∧ (ds.getD k dz).hi ≤ 20)))) rfl) rfl ?_
            by_cases cc10 : (ds.getD k dz).lo ≤ (ds.getD k dz).hi ∧ (ds.getD k dz).hi ≤ 20
            · refine rl_det (met_some rfl rfl (not_f (decide_eq_true cc10))) (fun h_ H_ => exd_fieldAddr tF38_1 rfl (a' := ⟨b8, 2, none⟩) rfl) rfl ?_
              refine rl_det (met_some rfl rfl (not_f (decide_eq_true cc10))) (fun h_ H_ => exd_load_own H_ tA3 rfl (i := 0) rfl (v := .int .i64 ((ds.getD k dz).want)) rfl) (tm' := [_,_,_,_,_,_,_,_,_,_,_,_,_,_,_,_,_,_,_,_,_,_,_,_,_,_,_,_,_,_,_,_,_,_,_,_,_,_,_,_,_,_,_,_,_,_,_,_,_,_,_,_,_,_,_,_]) rfl ?_
              refine rl_calld (met_some rfl rfl (not_f (decide_eq_true cc10))) (first := []) (cap := []) rfl rfl fC60 (fun h_ H_ => c60 md _ ((ds.getD k dz).want) (0) (20)) rfl ?_
              refine rl_det (met_some rfl rfl (not_f (decide_eq_true cc10))) (fun h_ H_ => exd_not rfl) rfl ?_
              refine rl_det (met_none rfl) (fun h_ H_ => exd_pick_f rfl (not_f (decide_eq_true cc10)) (v := .bool (!(decide (0 ≤ (ds.getD k dz).want ∧ (ds.getD k dz).want ≤ 20)))) rfl) (tm' := [_,_,_,_,_,_,_,_,_,_,_,_,_,_,_,_,_,_,_,_,_,_,_,_,_,_,_,_,_,_,_,_,_,_,_,_,_,_,_,_,_,_,_,_,_,_,_,_,_,_,_,_,_,_,_,_]) rfl ?_
              refine rl_end ?_
              by_cases cc11 : 0 ≤ (ds.getD k dz).want ∧ (ds.getD k dz).want ≤ 20
              · refine fl_else rfl (not_f (decide_eq_true cc11)) ?_
                refine fl_skip ?_
                refine fl_inBlock ?_
                refine rl_start ?_
                refine rl_det (met_none rfl) (fun h_ H_ => exd_move (v := .int .i64 (((k : Nat) : Int))) rfl) rfl ?_
                refine rl_det (met_none rfl) (fun h_ H_ => exd_add rfl rfl (n := ((k + 1 : Nat) : Int)) (wr (by omega))) rfl ?_
                refine rl_det (met_none rfl) (fun h_ H_ => exd_assign (v := .int .i64 (((k + 1 : Nat) : Int))) rfl) (tm' := _::_::_::_::_) rfl ?_
                refine rl_end ?_
                exact fun h_ H_ => IH6 _ _ (by omega) h_ ⟨k + 1, rfl, (y_of rfl), (by omega), (days_step hs (by unfold DayOk; omega)), H_.drop⟩
              · refine fl_then rfl (not_t (decide_eq_false cc11)) ?_
                refine fl_seq ?_
                refine rl_start ?_
                refine rl_det (met_none rfl) (fun h_ H_ => exd_assign (v := .int .i64 100) rfl) rfl ?_
                refine rl_end ?_
                refine fl_ret Try.func33 rfl (vs := [.int .i64 100]) (fun h_ H_ => ⟨.int .i64 100, _, rfl, rfl, rfl⟩) (v := .int .i64 100) rfl ?_
                have hl := D.len
                exact fun h_ H_ => K _ _ ⟨by first | (rw [chk_yes ⟨by omega, by omega, by omega, by omega, by omega, fun i hi => hs i (by omega)⟩]) | (rw [chk_no (fun e => by have := e.2.2.2.2.2 k (by omega); unfold Ok DayOk at *; omega)]) | (rw [chk_no (fun e => by unfold Ok at e; omega)]), H_.kept⟩
            · refine rl_pass (met_not rfl rfl (not_t (decide_eq_false cc10))) rfl ?_
              refine rl_pass (met_not rfl rfl (not_t (decide_eq_false cc10))) (tm' := [_,_,_,_,_,_,_,_,_,_,_,_,_,_,_,_,_,_,_,_,_,_,_,_,_,_,_,_,_,_,_,_,_,_,_,_,_,_,_,_,_,_,_,_,_,_,_,_,_,_,_,_,_,_,_,_]) rfl ?_
              refine rl_pass (met_not rfl rfl (not_t (decide_eq_false cc10))) rfl ?_
              refine rl_pass (met_not rfl rfl (not_t (decide_eq_false cc10))) rfl ?_
              refine rl_det (met_none rfl) (fun h_ H_ => exd_pick_t rfl (not_t (decide_eq_false cc10)) (v := .bool (true)) rfl) (tm' := [_,_,_,_,_,_,_,_,_,_,_,_,_,_,_,_,_,_,_,_,_,_,_,_,_,_,_,_,_,_,_,_,_,_,_,_,_,_,_,_,_,_,_,_,_,_,_,_,_,_,_,_,_,_,_,_]) rfl ?_
              refine rl_end ?_
              refine fl_then rfl rfl ?_
              refine fl_seq ?_
              refine rl_start ?_
              refine rl_det (met_none rfl) (fun h_ H_ => exd_assign (v := .int .i64 100) rfl) rfl ?_
              refine rl_end ?_
              refine fl_ret Try.func33 rfl (vs := [.int .i64 100]) (fun h_ H_ => ⟨.int .i64 100, _, rfl, rfl, rfl⟩) (v := .int .i64 100) rfl ?_
              have hl := D.len
              exact fun h_ H_ => K _ _ ⟨by first | (rw [chk_yes ⟨by omega, by omega, by omega, by omega, by omega, fun i hi => hs i (by omega)⟩]) | (rw [chk_no (fun e => by have := e.2.2.2.2.2 k (by omega); unfold Ok DayOk at *; omega)]) | (rw [chk_no (fun e => by unfold Ok at e; omega)]), H_.kept⟩
          · refine rl_pass (met_not rfl rfl (not_t (decide_eq_false cc9))) rfl ?_
            refine rl_pass (met_not rfl rfl (not_t (decide_eq_false cc9))) (tm' := [_,_,_,_,_,_,_,_,_,_,_,_,_,_,_,_,_,_,_,_,_,_,_,_,_,_,_,_,_,_,_,_,_,_,_,_,_,_,_,_,_,_,_,_,_,_,_,_,_,_,_,_,_,_,_,_]) rfl ?_
            refine rl_pass (met_not rfl rfl (not_t (decide_eq_false cc9))) rfl ?_
            refine rl_pass (met_not rfl rfl (not_t (decide_eq_false cc9))) rfl ?_
            refine rl_pass (met_not rfl rfl (not_t (decide_eq_false cc9))) (tm' := [_,_,_,_,_,_,_,_,_,_,_,_,_,_,_,_,_,_,_,_,_,_,_,_,_,_,_,_,_,_,_,_,_,_,_,_,_,_,_,_,_,_,_,_,_,_,_,_,_,_,_,_,_,_,_,_]) rfl ?_
            refine rl_pass (met_not rfl rfl (not_t (decide_eq_false cc9))) rfl ?_
            refine rl_pass (met_not rfl rfl (not_t (decide_eq_false cc9))) rfl ?_
            refine rl_pass (met_not rfl rfl (not_t (decide_eq_false cc9))) (tm' := [_,_,_,_,_,_,_,_,_,_,_,_,_,_,_,_,_,_,_,_,_,_,_,_,_,_,_,_,_,_,_,_,_,_,_,_,_,_,_,_,_,_,_,_,_,_,_,_,_,_,_,_,_,_,_,_]) rfl ?_
            refine rl_det (met_none rfl) (fun h_ H_ => exd_pick_t rfl (not_t (decide_eq_false cc9)) (v := .bool (true)) rfl) rfl ?_
            refine rl_det (met_none rfl) (fun h_ H_ => exd_move (v := .bool (true)) rfl) rfl ?_
            refine rl_pass (met_not rfl rfl rfl) (tm' := [_,_,_,_,_,_,_,_,_,_,_,_,_,_,_,_,_,_,_,_,_,_,_,_,_,_,_,_,_,_,_,_,_,_,_,_,_,_,_,_,_,_,_,_,_,_,_,_,_,_,_,_,_,_,_,_]) rfl ?_
            refine rl_pass (met_not rfl rfl rfl) rfl ?_
            refine rl_pass (met_not rfl rfl rfl) rfl ?_
            refine rl_pass (met_not rfl rfl rfl) (tm' := [_,_,_,_,_,_,_,_,_,_,_,_,_,_,_,_,_,_,_,_,_,_,_,_,_,_,_,_,_,_,_,_,_,_,_,_,_,_,_,_,_,_,_,_,_,_,_,_,_,_,_,_,_,_,_,_]) rfl ?_
            refine rl_det (met_none rfl) (fun h_ H_ => exd_pick_t rfl rfl (v := .bool (true)) rfl) rfl ?_
            refine rl_end ?_
            refine fl_then rfl rfl ?_
            refine fl_seq ?_
            refine rl_start ?_
            refine rl_det (met_none rfl) (fun h_ H_ => exd_assign (v := .int .i64 100) rfl) rfl ?_
            refine rl_end ?_
            refine fl_ret Try.func33 rfl (vs := [.int .i64 100]) (fun h_ H_ => ⟨.int .i64 100, _, rfl, rfl, rfl⟩) (v := .int .i64 100) rfl ?_
            have hl := D.len
            exact fun h_ H_ => K _ _ ⟨by first | (rw [chk_yes ⟨by omega, by omega, by omega, by omega, by omega, fun i hi => hs i (by omega)⟩]) | (rw [chk_no (fun e => by have := e.2.2.2.2.2 k (by omega); unfold Ok DayOk at *; omega)]) | (rw [chk_no (fun e => by unfold Ok at e; omega)]), H_.kept⟩
        · refine fl_else rfl (decide_eq_false cc7) ?_
          refine fl_exit rfl ?_
          refine fl_seq ?_
          refine rl_start ?_
          refine rl_det (met_none rfl) (fun h_ H_ => exd_assign (v := .int .i64 0) rfl) (tm' := _::_::_::_) rfl ?_
          refine rl_end ?_
          refine fl_ret Try.func33 rfl (vs := [.int .i64 0]) (fun h_ H_ => ⟨.int .i64 0, _, rfl, rfl, rfl⟩) (v := .int .i64 0) rfl ?_
          have hl := D.len
          exact fun h_ H_ => K _ _ ⟨by first | (rw [chk_yes ⟨by omega, by omega, by omega, by omega, by omega, fun i hi => hs i (by omega)⟩]) | (rw [chk_no (fun e => by have := e.2.2.2.2.2 k (by omega); unfold Ok DayOk at *; omega)]) | (rw [chk_no (fun e => by unfold Ok at e; omega)]), H_.kept⟩
    · refine rl_pass (met_not rfl rfl (not_t (decide_eq_false cc3))) rfl ?_
      refine rl_pass (met_not rfl rfl (not_t (decide_eq_false cc3))) rfl ?_
      refine rl_pass (met_not rfl rfl (not_t (decide_eq_false cc3))) (tm' := _::_::_::_::_::_::_::_::_::_::_::_::_::_::_::_::_::_::_::_::_::_) rfl ?_
      refine rl_pass (met_not rfl rfl (not_t (decide_eq_false cc3))) rfl ?_
      refine rl_det (met_none rfl) (fun h_ H_ => exd_pick_t rfl (not_t (decide_eq_false cc3)) (v := .bool (true)) rfl) rfl ?_
      refine rl_end ?_
      refine fl_then rfl rfl ?_
      refine fl_seq ?_
      refine rl_start ?_
      refine rl_det (met_none rfl) (fun h_ H_ => exd_assign (v := .int .i64 100) rfl) (tm' := _::_::_::_) rfl ?_
      refine rl_end ?_
      refine fl_ret Try.func33 rfl (vs := [.int .i64 100]) (fun h_ H_ => ⟨.int .i64 100, _, rfl, rfl, rfl⟩) (v := .int .i64 100) rfl ?_
      have hl := D.len
      exact fun h_ H_ => K _ _ ⟨by first | (rw [chk_yes ⟨by omega, by omega, by omega, by omega, by omega, fun i hi => hs i (by omega)⟩]) | (rw [chk_no (fun e => by have := e.2.2.2.2.2 k (by omega); unfold Ok DayOk at *; omega)]) | (rw [chk_no (fun e => by unfold Ok at e; omega)]), H_.kept⟩
  · refine rl_pass (met_not rfl rfl (not_t (decide_eq_false cc2))) rfl ?_
    refine rl_pass (met_not rfl rfl (not_t (decide_eq_false cc2))) rfl ?_
    refine rl_pass (met_not rfl rfl (not_t (decide_eq_false cc2))) (tm' := _::_::_::_::_::_::_::_::_::_::_::_::_::_) rfl ?_
    refine rl_pass (met_not rfl rfl (not_t (decide_eq_false cc2))) rfl ?_
    refine rl_pass (met_not rfl rfl (not_t (decide_eq_false cc2))) rfl ?_
    refine rl_pass (met_not rfl rfl (not_t (decide_eq_false cc2))) (tm' := _::_::_::_::_::_::_::_::_::_::_::_::_::_::_::_::_) rfl ?_
    refine rl_det (met_none rfl) (fun h_ H_ => exd_pick_t rfl (not_t (decide_eq_false cc2)) (v := .bool (true)) rfl) rfl ?_
    refine rl_det (met_none rfl) (fun h_ H_ => exd_move (v := .bool (true)) rfl) rfl ?_
    refine rl_pass (met_not rfl rfl rfl) (tm' := _::_::_::_::_::_::_::_::_::_::_::_::_::_::_::_::_::_::_::_) rfl ?_
    refine rl_pass (met_not rfl rfl rfl) rfl ?_
    refine rl_pass (met_not rfl rfl rfl) rfl ?_
    refine rl_pass (met_not rfl rfl rfl) (tm' := _::_::_::_::_::_::_::_::_::_::_::_::_::_::_::_::_::_::_::_::_::_::_) rfl ?_
    refine rl_det (met_none rfl) (fun h_ H_ => exd_pick_t rfl rfl (v := .bool (true)) rfl) rfl ?_
    refine rl_end ?_
    refine fl_then rfl rfl ?_
    refine fl_seq ?_
    refine rl_start ?_
    refine rl_det (met_none rfl) (fun h_ H_ => exd_assign (v := .int .i64 100) rfl) rfl ?_
    refine rl_end ?_
    refine fl_ret Try.func33 rfl (vs := [.int .i64 100]) (fun h_ H_ => ⟨.int .i64 100, _, rfl, rfl, rfl⟩) (v := .int .i64 100) rfl ?_
    have hl := D.len
    exact fun h_ H_ => K _ _ ⟨by first | (rw [chk_yes ⟨by omega, by omega, by omega, by omega, by omega, fun i hi => hs i (by omega)⟩]) | (rw [chk_no (fun e => by have := e.2.2.2.2.2 k (by omega); unfold Ok DayOk at *; omega)]) | (rw [chk_no (fun e => by unfold Ok at e; omega)]), H_.kept⟩
theorem c74 (md : Md) (h : Heap) (p : PHeap) (hp : Per p h) (size start : Int) (a : Option Addr) (n c : Nat) (ds : List Day) (D : Days p a n ds) (hn : n ≤ 40) (t : Bool) : CallsX Try.prog md 74 #[.agg #[.int .i64 (size), .int .i64 (start), .slice a n c], .bool (t)] h fun v h' => v = .int .i64 (askd size start ds t) ∧ Keep h h' := by
  refine calls_intro (Φ := fun h_ => St h [] p h_ []) Try.func74 rfl (tm := [_, _, _, _, _, _, _, _, _, _, _, _, _]) rfl ?_ (St.start h _ hp)
  intro c₀ cs Stop K
  refine fl_seq ?_
  refine rl_start ?_
  refine rl_box (met_none rfl) (v := .agg #[.int .i64 (size), .int .i64 (start), .slice a n c]) rfl fun b1 => rl_own (L' := [(b1, .cells #[.int .i64 (size), .int .i64 (start), .slice a n c] 24 (0, 0))]) rfl ?_
  refine rl_norm (tm' := _::_::_::_) rfl ?_
  refine rl_det (met_none rfl) (fun h_ H_ => exd_assign (v := .int .i64 0) rfl) rfl ?_
  refine rl_end ?_
  refine fl_seq ?_
  refine fl_seq ?_
  refine rl_start ?_
  refine rl_det (met_none rfl) (fun h_ H_ => exd_loadN_own H_ tA24 tS24 rfl (i := 0) rfl (vs := [.int .i64 (size), .int .i64 (start), .slice a n c]) rfl rfl) rfl ?_
  refine rl_calld (met_none rfl) (first := []) (cap := []) rfl rfl fC33 (fun h_ H_ => c33 md _ _ (fun b_ o_ e_ => H_.per b_ o_ e_) (size) (start) _ _ _ _ D (by omega)) (tm' := _::_::_::_::_::_::_::_::_) rfl ?_
  refine rl_det (met_none rfl) (fun h_ H_ => exd_assign (v := .int .i64 (chk (size) (start) ds)) rfl) rfl ?_
  refine rl_end ?_
  refine fl_seq ?_
  refine rl_start ?_
  refine rl_det (met_none rfl) (fun h_ H_ => exd_move (v := .int .i64 (chk (size) (start) ds)) rfl) rfl ?_
  refine rl_det (met_none rfl) (fun h_ H_ => exd_neq rfl rfl) (tm' := [_,_,_,_,_,_,_,_,_,_,_,_,_]) rfl ?_
  refine rl_end ?_
  by_cases cc2 : chk (size) (start) ds ≠ 0
  · refine fl_then rfl (decide_eq_true cc2) ?_
    refine fl_seq ?_
    refine rl_start ?_
    refine rl_det (met_none rfl) (fun h_ H_ => exd_move (v := .int .i64 (chk (size) (start) ds)) rfl) rfl ?_
    refine rl_det (met_none rfl) (fun h_ H_ => exd_assign (v := .int .i64 (chk (size) (start) ds)) rfl) rfl ?_
    refine rl_end ?_
    refine fl_ret Try.func74 rfl (vs := [.int .i64 (chk (size) (start) ds)]) (fun h_ H_ => ⟨.int .i64 (chk (size) (start) ds), _, rfl, rfl, rfl⟩) (v := .int .i64 (chk (size) (start) ds)) rfl ?_
    exact fun h_ H_ => K _ _ ⟨by unfold askd; unfold chk at *; split <;> simp_all, H_.kept⟩
  · refine fl_else rfl (decide_eq_false cc2) ?_
    refine fl_skip ?_
    refine fl_seq ?_
    refine fl_seq ?_
    refine rl_start ?_
    refine rl_det (met_none rfl) (fun h_ H_ => exd_move (v := .bool (t)) rfl) (tm' := [_,_,_,_,_,_,_,_,_,_,_,_,_]) rfl ?_
    refine rl_det (met_none rfl) (fun h_ H_ => exd_not rfl) rfl ?_
    refine rl_end ?_
    rcases bcases (t) with cc3 | cc3
    · refine fl_else rfl (not_f cc3) ?_
      refine fl_skip ?_
      refine fl_seq ?_
      refine rl_start ?_
      refine rl_det (met_none rfl) (fun h_ H_ => exd_assign (v := .int .i64 0) rfl) rfl ?_
      refine rl_end ?_
      refine fl_ret Try.func74 rfl (vs := [.int .i64 0]) (fun h_ H_ => ⟨.int .i64 0, _, rfl, rfl, rfl⟩) (v := .int .i64 0) rfl ?_
      exact fun h_ H_ => K _ _ ⟨by unfold askd; unfold chk at *; split <;> simp_all, H_.kept⟩
    · refine fl_then rfl (not_t cc3) ?_
      refine fl_seq ?_
      refine rl_start ?_
      refine rl_det (met_none rfl) (fun h_ H_ => exd_assign (v := .int .i64 1) rfl) (tm' := _::_::_::_::_::_) rfl ?_
      refine rl_end ?_
      refine fl_ret Try.func74 rfl (vs := [.int .i64 1]) (fun h_ H_ => ⟨.int .i64 1, _, rfl, rfl, rfl⟩) (v := .int .i64 1) rfl ?_
      exact fun h_ H_ => K _ _ ⟨by unfold askd; unfold chk at *; split <;> simp_all, H_.kept⟩
theorem c20 (md : Md) (h : Heap) (p : PHeap) (hp : Per p h) (a : Option Addr) (n c : Nat) (xs : List Int) (A : Ints p a n xs) (hn : n ≤ 40) (m : Int) (hx : ∀ i, i < n → 0 ≤ xs.getD i 0 ∧ xs.getD i 0 ≤ 100) : CallsX Try.prog md 20 #[.slice a n c, .int .i64 (m)] h fun v h' => v = .int .i64 (sumTo (listOf xs) (min n (m + 1).toNat)) ∧ Keep h h' := by
  refine calls_intro (Φ := fun h_ => St h [] p h_ []) Try.func20 rfl (tm := [_, _, _, _, _, _, _, _, _, _, _, _, _, _, _, _, _, _, _, _, _, _, _, _, _]) rfl ?_ (St.start h _ hp)
  intro c₀ cs Stop K
  refine fl_seq ?_
  refine rl_start ?_
  refine rl_det (met_none rfl) (fun h_ H_ => exd_assign (v := .int .i64 0) rfl) rfl ?_
  refine rl_end ?_
  refine fl_seq ?_
  refine rl_start ?_
  refine rl_det (met_none rfl) (fun h_ H_ => exd_assign (v := .int .i64 0) rfl) rfl ?_
  refine rl_end ?_
  refine fl_seq ?_
  refine fl_seq ?_
  refine rl_start ?_
  refine rl_det (met_none rfl) (fun h_ H_ => exd_assign (v := .int .i64 0) rfl) (tm' := _::_::_::_::_::_::_::_) rfl ?_
  refine rl_end ?_
  refine fl_block ?_
  refine fl_loop (m₀ := n - 0) (fun m_ tm_ h_ => ∃ (k : Nat), m_ = n - k ∧ (∃ y1 : Nat → Value, tm_ = [.slice a n c, .int .i64 (m), undef, undef, .int .i64 0, .int .i64 (sumTo (listOf xs) k), .int .i64 (((k : Nat) : Int)), (y1 7), (y1 8), (y1 9), (y1 10), (y1 11), (y1 12), (y1 13), (y1 14), (y1 15), (y1 16), (y1 17), (y1 18), (y1 19), (y1 20), (y1 21), (y1 22), (y1 23), undef]) ∧ (k ≤ min n (m + 1).toNat) ∧ (0 ≤ sumTo (listOf xs) k ∧ sumTo (listOf xs) k ≤ 100 * k) ∧ St h [] p h_ ([])) (fun h_ H_ => ⟨0, rfl, (y_of rfl), Nat.zero_le _, ⟨Int.le_refl _, Int.le_refl _⟩, H_⟩) ?_
  intro m_ tm_ IH2
  refine rs_ex fun k => rs_and fun hm_ => rs_and fun ht_ => rs_and fun hk => rs_and fun hs => ?_
  subst hm_; obtain ⟨y1, ht_⟩ := ht_; subst ht_
  refine fl_seq ?_
  refine fl_seq ?_
  refine rl_start ?_
  refine rl_det (met_none rfl) (fun h_ H_ => exd_move (v := .int .i64 (((k : Nat) : Int))) rfl) rfl ?_
  refine rl_det (met_none rfl) (fun h_ H_ => exd_move (v := .int .i64 (m)) rfl) rfl ?_
  refine rl_det (met_none rfl) (fun h_ H_ => exd_leq rfl rfl) (tm' := _::_::_::_::_::_::_::_::_::_::_) rfl ?_
  refine rl_det (met_none rfl) (fun h_ H_ => exd_move (v := .bool (decide (((k : Nat) : Int) ≤ m))) rfl) rfl ?_
  by_cases cc3 : ((k : Nat) : Int) ≤ m
  · refine rl_det (met_some rfl rfl (decide_eq_true cc3)) (fun h_ H_ => exd_move (v := .int .i64 (((k : Nat) : Int))) rfl) rfl ?_
    refine rl_det (met_some rfl rfl (decide_eq_true cc3)) (fun h_ H_ => exd_move (v := .slice a n c) rfl) (tm' := _::_::_::_::_::_::_::_::_::_::_::_::_::_) rfl ?_
    refine rl_det (met_some rfl rfl (decide_eq_true cc3)) (fun h_ H_ => exd_len Try.underlying25 rfl) rfl ?_
    refine rl_det (met_some rfl rfl (decide_eq_true cc3)) (fun h_ H_ => exd_lss rfl rfl) rfl ?_
    refine rl_det (met_none rfl) (fun h_ H_ => exd_pick_t rfl (decide_eq_true cc3) (v := .bool (decide (((k : Nat) : Int) < ((n : Nat) : Int)))) rfl) (tm' := _::_::_::_::_::_::_::_::_::_::_::_::_::_::_::_::_) rfl ?_
    refine rl_end ?_
    by_cases cc4 : ((k : Nat) : Int) < ((n : Nat) : Int)
    · refine fl_then rfl (decide_eq_true cc4) ?_
      refine fl_skip ?_
      refine fl_seq ?_
      refine fl_block ?_
      refine rl_start ?_
      refine rl_det (met_none rfl) (fun h_ H_ => exd_move (v := .int .i64 (sumTo (listOf xs) k)) rfl) rfl ?_
      refine rl_det (met_none rfl) (fun h_ H_ => exd_move (v := .slice a n c) rfl) rfl ?_
      refine rl_det (met_none rfl) (fun h_ H_ => exd_move (v := .int .i64 (((k : Nat) : Int))) rfl) (tm' := [_,_,_,_,_,_,_,_,_,_,_,_,_,_,_,_,_,_,_,_,_,_,_,_,_]) rfl ?_
      refine rl_det (met_none rfl) (fun h_ H_ => exd_indexAddrN (i := k) Try.underlying25 tS3 (sl_ne a n c (A.ne (by omega))) rfl (by omega)) rfl ?_
      refine rl_det (met_none rfl) (fun h_ H_ => exd_load_per H_ tA3 rfl (v := .int .i64 (xs.getD k 0)) (A.get (by omega))) rfl ?_
      refine rl_det (met_none rfl) (fun h_ H_ => exd_add rfl rfl (wr (by have := hx k (by omega); omega))) (tm' := [_,_,_,_,_,_,_,_,_,_,_,_,_,_,_,_,_,_,_,_,_,_,_,_,_]) rfl ?_
      refine rl_det (met_none rfl) (fun h_ H_ => exd_assign (v := .int .i64 ((sumTo (listOf xs) k) + (xs.getD k 0))) rfl) rfl ?_
      refine rl_end ?_
      refine fl_inBlock ?_
      refine rl_start ?_
      refine rl_det (met_none rfl) (fun h_ H_ => exd_move (v := .int .i64 (((k : Nat) : Int))) rfl) rfl ?_
      refine rl_det (met_none rfl) (fun h_ H_ => exd_add rfl rfl (n := ((k + 1 : Nat) : Int)) (wr (by omega))) (tm' := [_,_,_,_,_,_,_,_,_,_,_,_,_,_,_,_,_,_,_,_,_,_,_,_,_]) rfl ?_
      refine rl_det (met_none rfl) (fun h_ H_ => exd_assign (v := .int .i64 (((k + 1 : Nat) : Int))) rfl) rfl ?_
      refine rl_end ?_
      exact fun h_ H_ => IH2 _ _ (by omega) h_ ⟨k + 1, rfl, (y_of rfl), (by omega), (by have := hx k (by omega); simp only [sumTo, listOf] at hs ⊢; omega), H_⟩
    · refine fl_else rfl (decide_eq_false cc4) ?_
      refine fl_exit rfl ?_
      refine fl_seq ?_
      refine rl_start ?_
      refine rl_det (met_none rfl) (fun h_ H_ => exd_move (v := .int .i64 (sumTo (listOf xs) k)) rfl) rfl ?_
      refine rl_det (met_none rfl) (fun h_ H_ => exd_assign (v := .int .i64 (sumTo (listOf xs) k)) rfl) (tm' := _::_::_::_::_::_) rfl ?_
      refine rl_end ?_
      refine fl_ret Try.func20 rfl (vs := [.int .i64 (sumTo (listOf xs) k)]) (fun h_ H_ => ⟨.int .i64 (sumTo (listOf xs) k), _, rfl, rfl, rfl⟩) (v := .int .i64 (sumTo (listOf xs) k)) rfl ?_
      have hk2 : k = min n (m + 1).toNat := by omega
      exact fun h_ H_ => K _ _ ⟨by rw [hk2], H_.kept⟩
  · refine rl_pass (met_not rfl rfl (decide_eq_false cc3)) rfl ?_
    refine rl_pass (met_not rfl rfl (decide_eq_false cc3)) rfl ?_
    refine rl_pass (met_not rfl rfl (decide_eq_false cc3)) (tm' := _::_::_::_::_::_::_::_::_::_::_::_::_::_::_) rfl ?_
    refine rl_pass (met_not rfl rfl (decide_eq_false cc3)) rfl ?_
    refine rl_det (met_none rfl) (fun h_ H_ => exd_pick_f rfl (decide_eq_false cc3) (v := .bool (false)) rfl) rfl ?_
    refine rl_end ?_
    refine fl_else rfl rfl ?_
    refine fl_exit rfl ?_
    refine fl_seq ?_
    refine rl_start ?_
    refine rl_det (met_none rfl) (fun h_ H_ => exd_move (v := .int .i64 (sumTo (listOf xs) k)) rfl) (tm' := [_,_,_,_,_,_,_,_,_,_,_,_,_,_,_,_,_,_,_,_,_,_,_,_,_]) rfl ?_
    refine rl_det (met_none rfl) (fun h_ H_ => exd_assign (v := .int .i64 (sumTo (listOf xs) k)) rfl) rfl ?_
    refine rl_end ?_
    refine fl_ret Try.func20 rfl (vs := [.int .i64 (sumTo (listOf xs) k)]) (fun h_ H_ => ⟨.int .i64 (sumTo (listOf xs) k), _, rfl, rfl, rfl⟩) (v := .int .i64 (sumTo (listOf xs) k)) rfl ?_
    have hk2 : k = min n (m + 1).toNat := by omega
    exact fun h_ H_ => K _ _ ⟨by rw [hk2], H_.kept⟩
end Go.Proofs.Ytbmkacnlhlbnjaa
namespace Go.Proofs.Ytbmkacnlhlbnjaa
open Go.X Go.X.Cist Go.Conc
set_option maxRecDepth 10000

theorem c69 (md : Md) (h : Heap) (d : Day) : CallsX Try.prog md 69 #[.agg #[.int .i64 (d.lo), .int .i64 (d.hi), .int .i64 (d.want)]] h fun v h' => v = .bool (badDay d) ∧ Keep h h' := by
  refine calls_intro (Φ := fun h_ => St h [] (fun _ => none) h_ []) Try.func69 rfl (tm := [_, _, _, _, _, _, _, _, _, _, _, _, _, _, _, _, _, _, _, _, _, _, _, _]) rfl ?_ (St.start h _ (fun _ _ e => by cases e))
  intro c₀ cs Stop K
  refine fl_seq ?_
  refine rl_start ?_
  refine rl_box (met_none rfl) (v := .agg #[.int .i64 (d.lo), .int .i64 (d.hi), .int .i64 (d.want)]) rfl fun b1 => rl_own (L' := [(b1, .cells #[.int .i64 (d.lo), .int .i64 (d.hi), .int .i64 (d.want)] 38 (0, 0))]) rfl ?_
  refine rl_det (met_none rfl) (fun h_ H_ => exd_assign (v := .bool (false)) rfl) rfl ?_
  refine rl_end ?_
  refine fl_seq ?_
  refine rl_start ?_
  refine rl_det (met_none rfl) (fun h_ H_ => exd_fieldAddr tF38_0 rfl (a' := ⟨b1, 0, none⟩) rfl) (tm' := _::_::_::_::_) rfl ?_
  refine rl_det (met_none rfl) (fun h_ H_ => exd_fieldAddr tF36_1 rfl (a' := ⟨b1, 1, none⟩) rfl) rfl ?_
  refine rl_det (met_none rfl) (fun h_ H_ => exd_load_own H_ tA3 rfl (i := 0) rfl (v := .int .i64 (d.hi)) rfl) rfl ?_
  refine rl_calld (met_none rfl) (first := []) (cap := []) rfl rfl fC70 (fun h_ H_ => c70 md _ (d.hi) (0) (20)) (tm' := _::_::_::_::_::_::_::_) rfl ?_
  refine rl_det (met_none rfl) (fun h_ H_ => exd_not rfl) rfl ?_
  refine rl_det (met_none rfl) (fun h_ H_ => exd_move (v := .bool (!(decide (0 ≤ d.hi ∧ d.hi ≤ 20)))) rfl) rfl ?_
  by_cases cc2 : 0 ≤ d.hi ∧ d.hi ≤ 20
  · refine rl_det (met_some rfl rfl (not_f (decide_eq_true cc2))) (fun h_ H_ => exd_fieldAddr tF38_0 rfl (a' := ⟨b1, 0, none⟩) rfl) (tm' := _::_::_::_::_::_::_::_::_::_::_) rfl ?_
    refine rl_det (met_some rfl rfl (not_f (decide_eq_true cc2))) (fun h_ H_ => exd_fieldAddr tF36_0 rfl (a' := ⟨b1, 0, none⟩) rfl) rfl ?_
    refine rl_det (met_some rfl rfl (not_f (decide_eq_true cc2))) (fun h_ H_ => exd_load_own H_ tA3 rfl (i := 0) rfl (v := .int .i64 (d.lo)) rfl) rfl ?_
    refine rl_det (met_some rfl rfl (not_f (decide_eq_true cc2))) (fun h_ H_ => exd_fieldAddr tF38_0 rfl (a' := ⟨b1, 0, none⟩) rfl) (tm' := _::_::_::_::_::_::_::_::_::_::_::_::_::_) rfl ?_
    refine rl_det (met_some rfl rfl (not_f (decide_eq_true cc2))) (fun h_ H_ => exd_fieldAddr tF36_1 rfl (a' := ⟨b1, 1, none⟩) rfl) rfl ?_
    refine rl_det (met_some rfl rfl (not_f (decide_eq_true cc2))) (fun h_ H_ => exd_load_own H_ tA3 rfl (i := 0) rfl (v := .int .i64 (d.hi)) rfl) rfl ?_
    refine rl_calld (met_some rfl rfl (not_f (decide_eq_true cc2))) (first := []) (cap := []) rfl rfl fC70 (fun h_ H_ => c70 md _ (d.lo) (0) (d.hi)) (tm' := _::_::_::_::_::_::_::_::_::_::_::_::_::_::_::_::_) rfl ?_
    refine rl_det (met_some rfl rfl (not_f (decide_eq_true cc2))) (fun h_ H_ => exd_not rfl) rfl ?_
    refine rl_det (met_none rfl) (fun h_ H_ => exd_pick_f rfl (not_f (decide_eq_true cc2)) (v := .bool (!(decide (0 ≤ d.lo ∧ d.lo ≤ d.hi)))) rfl) rfl ?_
    refine rl_det (met_none rfl) (fun h_ H_ => exd_move (v := .bool (!(decide (0 ≤ d.lo ∧ d.lo ≤ d.hi)))) rfl) (tm' := [_,_,_,_,_,_,_,_,_,_,_,_,_,_,_,_,_,_,_,_,_,_,_,_]) rfl ?_
    by_cases cc3 : 0 ≤ d.lo ∧ d.lo ≤ d.hi
    · refine rl_det (met_some rfl rfl (not_f (decide_eq_true cc3))) (fun h_ H_ => exd_fieldAddr tF38_1 rfl (a' := ⟨b1, 2, none⟩) rfl) rfl ?_
      refine rl_det (met_some rfl rfl (not_f (decide_eq_true cc3))) (fun h_ H_ => exd_load_own H_ tA3 rfl (i := 0) rfl (v := .int .i64 (d.want)) rfl) rfl ?_
      refine rl_calld (met_some rfl rfl (not_f (decide_eq_true cc3))) (first := []) (cap := []) rfl rfl fC70 (fun h_ H_ => c70 md _ (d.want) (0) (20)) (tm' := [_,_,_,_,_,_,_,_,_,_,_,_,_,_,_,_,_,_,_,_,_,_,_,_]) rfl ?_
      refine rl_det (met_some rfl rfl (not_f (decide_eq_true cc3))) (fun h_ H_ => exd_not rfl) rfl ?_
      refine rl_det (met_none rfl) (fun h_ H_ => exd_pick_f rfl (not_f (decide_eq_true cc3)) (v := .bool (!(decide (0 ≤ d.want ∧ d.want ≤ 20)))) rfl) rfl ?_
      refine rl_det (met_none rfl) (fun h_ H_ => exd_assign (v := .bool (!(decide (0 ≤ d.want ∧ d.want ≤ 20)))) rfl) (tm' := _::_::_::_) rfl ?_
      refine rl_end ?_
      refine fl_ret Try.func69 rfl (vs := [.bool (!(decide (0 ≤ d.want ∧ d.want ≤ 20)))]) (fun h_ H_ => ⟨.bool (!(decide (0 ≤ d.want ∧ d.want ≤ 20))), _, rfl, rfl, rfl⟩) (v := .bool (!(decide (0 ≤ d.want ∧ d.want ≤ 20)))) rfl ?_
      exact fun h_ H_ => K _ _ ⟨by unfold badDay DayOk; first | (rw [decide_eq_true (by omega)]) | (congr 1; rw [Bool.eq_iff_iff]; simp only [Bool.not_eq_true', decide_eq_true_eq, decide_eq_false_iff_not]; omega), H_.kept⟩
    · refine rl_pass (met_not rfl rfl (not_t (decide_eq_false cc3))) rfl ?_
      refine rl_pass (met_not rfl rfl (not_t (decide_eq_false cc3))) rfl ?_
      refine rl_pass (met_not rfl rfl (not_t (decide_eq_false cc3))) (tm' := [_,_,_,_,_,_,_,_,_,_,_,_,_,_,_,_,_,_,_,_,_,_,_,_]) rfl ?_
      refine rl_pass (met_not rfl rfl (not_t (decide_eq_false cc3))) rfl ?_
      refine rl_det (met_none rfl) (fun h_ H_ => exd_pick_t rfl (not_t (decide_eq_false cc3)) (v := .bool (true)) rfl) rfl ?_
      refine rl_det (met_none rfl) (fun h_ H_ => exd_assign (v := .bool (true)) rfl) (tm' := _::_::_::_) rfl ?_
      refine rl_end ?_
      refine fl_ret Try.func69 rfl (vs := [.bool (true)]) (fun h_ H_ => ⟨.bool (true), _, rfl, rfl, rfl⟩) (v := .bool (true)) rfl ?_
      exact fun h_ H_ => K _ _ ⟨by unfold badDay DayOk; first | (rw [decide_eq_true (by omega)]) | (congr 1; rw [Bool.eq_iff_iff]; simp only [Bool.not_eq_true', decide_eq_true_eq, decide_eq_false_iff_not]; omega), H_.kept⟩
  · refine rl_pass (met_not rfl rfl (not_t (decide_eq_false cc2))) rfl ?_
    refine rl_pass (met_not rfl rfl (not_t (decide_eq_false cc2))) rfl ?_
    refine rl_pass (met_not rfl rfl (not_t (decide_eq_false cc2))) (tm' := _::_::_::_::_::_::_::_::_::_::_::_::_) rfl ?_
    refine rl_pass (met_not rfl rfl (not_t (decide_eq_false cc2))) rfl ?_
    refine rl_pass (met_not rfl rfl (not_t (decide_eq_false cc2))) rfl ?_
    refine rl_pass (met_not rfl rfl (not_t (decide_eq_false cc2))) (tm' := _::_::_::_::_::_::_::_::_::_::_::_::_::_::_::_) rfl ?_
    refine rl_pass (met_not rfl rfl (not_t (decide_eq_false cc2))) rfl ?_
    refine rl_pass (met_not rfl rfl (not_t (decide_eq_false cc2))) rfl ?_
    refine rl_det (met_none rfl) (fun h_ H_ => exd_pick_t rfl (not_t (decide_eq_false cc2)) (v := .bool (true)) rfl) (tm' := [_,_,_,_,_,_,_,_,_,_,_,_,_,_,_,_,_,_,_,_,_,_,_,_]) rfl ?_
    refine rl_det (met_none rfl) (fun h_ H_ => exd_move (v := .bool (true)) rfl) rfl ?_
    refine rl_pass (met_not rfl rfl rfl) rfl ?_
    refine rl_pass (met_not rfl rfl rfl) (tm' := [_,_,_,_,_,_,_,_,_,_,_,_,_,_,_,_,_,_,_,_,_,_,_,_]) rfl ?_
    refine rl_pass (met_not rfl rfl rfl) rfl ?_
    refine rl_pass (met_not rfl rfl rfl) rfl ?_
    refine rl_det (met_none rfl) (fun h_ H_ => exd_pick_t rfl rfl (v := .bool (true)) rfl) (tm' := [_,_,_,_,_,_,_,_,_,_,_,_,_,_,_,_,_,_,_,_,_,_,_,_]) rfl ?_
    refine rl_det (met_none rfl) (fun h_ H_ => exd_assign (v := .bool (true)) rfl) rfl ?_
    refine rl_end ?_
    refine fl_ret Try.func69 rfl (vs := [.bool (true)]) (fun h_ H_ => ⟨.bool (true), _, rfl, rfl, rfl⟩) (v := .bool (true)) rfl ?_
    exact fun h_ H_ => K _ _ ⟨by unfold badDay DayOk; first | (rw [decide_eq_true (by omega)]) | (congr 1; rw [Bool.eq_iff_iff]; simp only [Bool.not_eq_true', decide_eq_true_eq, decide_eq_false_iff_not]; omega), H_.kept⟩
theorem c94 (md : Md) (h : Heap) (p : PHeap) (hp : Per p h) (fv : Value) (a : Option Addr) (n c : Nat) (ds : List Day) (D : Days p a n ds) (hn : n ≤ 40) (q : Day → Bool) (hf : ∀ h, Per p h → ∀ i, i < n → CallV Try.prog md fv [.agg #[.int .i64 (ds.getD i dz).lo, .int .i64 (ds.getD i dz).hi, .int .i64 (ds.getD i dz).want]] h fun v h' => v = .bool (q (ds.getD i dz)) ∧ Keep h h') : CallsX Try.prog md 94 #[.slice a n c, fv] h fun v h' => v = .int .i64 (idxF q ds) ∧ Keep h h' := by
  refine calls_intro (Φ := fun h_ => St h [] p h_ []) Try.func94 rfl (tm := [_, _, _, _, _, _, _, _, _, _, _, _, _, _, _, _, _, _, _]) rfl ?_ (St.start h _ hp)
  intro c₀ cs Stop K
  refine fl_seq ?_
  refine rl_start ?_
  refine rl_det (met_none rfl) (fun h_ H_ => exd_assign (v := .int .i64 0) rfl) rfl ?_
  refine rl_end ?_
  refine fl_seq ?_
  refine fl_seq ?_
  refine rl_start ?_
  refine rl_det (met_none rfl) (fun h_ H_ => exd_move (v := .slice a n c) rfl) (tm' := _::_::_::_::_::_::_::_) rfl ?_
  refine rl_det (met_none rfl) (fun h_ H_ => exd_len Try.underlying22 rfl) rfl ?_
  refine rl_det (met_none rfl) (fun h_ H_ => exd_move (v := .int .i64 0) rfl) rfl ?_
  refine rl_end ?_
  refine fl_block ?_
  refine fl_loop (m₀ := n - 0) (fun m_ tm_ h_ => ∃ (k : Nat), m_ = n - k ∧ (∃ y1 : Nat → Value, tm_ = [.slice a n c, fv, undef, undef, (y1 4), (y1 5), .slice a n c, .int .i64 (((n : Nat) : Int)), .int .i64 (((k : Nat) : Int)), (y1 9), (y1 10), (y1 11), (y1 12), (y1 13), (y1 14), (y1 15), (y1 16), (y1 17), (y1 18)]) ∧ (k ≤ n) ∧ (∀ i, i < k → q (ds.getD i dz) = false) ∧ St h [] p h_ ([])) (fun h_ H_ => ⟨0, rfl, (y_of rfl), Nat.zero_le _, (fun i hi => absurd hi (Nat.not_lt_zero i)), H_⟩) ?_
  intro m_ tm_ IH2
  refine rs_ex fun k => rs_and fun hm_ => rs_and fun ht_ => rs_and fun hk => rs_and fun hs => ?_
  subst hm_; obtain ⟨y1, ht_⟩ := ht_; subst ht_
  refine fl_seq ?_
  refine rl_start ?_
  refine rl_det (met_none rfl) (fun h_ H_ => exd_lss rfl rfl) (tm' := _::_::_::_::_::_::_::_::_::_::_) rfl ?_
  refine rl_end ?_
  refine fl_seq ?_
  by_cases cc3 : ((k : Nat) : Int) < ((n : Nat) : Int)
  · refine fl_then rfl (decide_eq_true cc3) ?_
    refine fl_skip ?_
    refine fl_seq ?_
    refine fl_block ?_
    refine fl_seq ?_
    refine rl_start ?_
    refine rl_det (met_none rfl) (fun h_ H_ => exd_move (v := .int .i64 (((k : Nat) : Int))) rfl) rfl ?_
    refine rl_det (met_none rfl) (fun h_ H_ => exd_assign (v := .int .i64 (((k : Nat) : Int))) rfl) rfl ?_
    refine rl_end ?_
    refine fl_seq ?_
    refine rl_start ?_
    refine rl_det (met_none rfl) (fun h_ H_ => exd_move (v := fv) rfl) (tm' := _::_::_::_::_::_::_::_::_::_::_::_::_) rfl ?_
    refine rl_det (met_none rfl) (fun h_ H_ => exd_move (v := .slice a n c) rfl) rfl ?_
    refine rl_det (met_none rfl) (fun h_ H_ => exd_move (v := .int .i64 (((k : Nat) : Int))) rfl) rfl ?_
    refine rl_det (met_none rfl) (fun h_ H_ => exd_indexAddrN (i := k) Try.underlying22 tS38 (sl_ne a n c (D.ne (by omega))) rfl (by omega)) (tm' := [_,_,_,_,_,_,_,_,_,_,_,_,_,_,_,_,_,_,_]) rfl ?_
    refine rl_det (met_none rfl) (fun h_ H_ => exd_loadN_per H_ tA38 tS38 rfl (vs := [.int .i64 ((ds.getD k dz).lo), .int .i64 ((ds.getD k dz).hi), .int .i64 ((ds.getD k dz).want)]) rfl (D.all (by omega))) rfl ?_
    refine rl_callvd (met_none rfl) rfl (vs := [.agg #[.int .i64 ((ds.getD k dz).lo), .int .i64 ((ds.getD k dz).hi), .int .i64 ((ds.getD k dz).want)]]) rfl (fun h_ H_ => hf h_ H_.per k (show k < n by omega)) rfl ?_
    refine rl_end ?_
    rcases bcases ((q (ds.getD k dz))) with cc4 | cc4
    · refine fl_then rfl cc4 ?_
      refine fl_seq ?_
      refine rl_start ?_
      refine rl_det (met_none rfl) (fun h_ H_ => exd_move (v := .int .i64 (((k : Nat) : Int))) rfl) (tm' := [_,_,_,_,_,_,_,_,_,_,_,_,_,_,_,_,_,_,_]) rfl ?_
      refine rl_det (met_none rfl) (fun h_ H_ => exd_assign (v := .int .i64 (((k : Nat) : Int))) rfl) rfl ?_
      refine rl_end ?_
      refine fl_ret Try.func94 rfl (vs := [.int .i64 (((k : Nat) : Int))]) (fun h_ H_ => ⟨.int .i64 (((k : Nat) : Int)), _, rfl, rfl, rfl⟩) (v := .int .i64 (((k : Nat) : Int))) rfl ?_
      have hl := D.len
      exact fun h_ H_ => K _ _ ⟨by first | (rw [idxF_some (k := k) (by omega) ‹_› hs]) | (rw [idxF_none (fun i hi => hs i (by omega))]), H_.kept⟩
    · refine fl_else rfl cc4 ?_
      refine fl_skip ?_
      refine fl_inBlock ?_
      refine rl_start ?_
      refine rl_det (met_none rfl) (fun h_ H_ => exd_add rfl rfl (n := ((k + 1 : Nat) : Int)) (wr (by omega))) rfl ?_
      refine rl_det (met_none rfl) (fun h_ H_ => exd_move (v := .int .i64 (((k + 1 : Nat) : Int))) rfl) (tm' := _::_::_::_::_::_::_::_::_::_) rfl ?_
      refine rl_end ?_
      exact fun h_ H_ => IH2 _ _ (by omega) h_ ⟨k + 1, rfl, (y_of rfl), (by omega), (idx_step hs ‹_›), H_⟩
  · refine fl_else rfl (decide_eq_false cc3) ?_
    refine fl_exit rfl ?_
    refine fl_seq ?_
    refine rl_start ?_
    refine rl_det (met_none rfl) (fun h_ H_ => exd_assign (v := .int .i64 (-1)) rfl) rfl ?_
    refine rl_end ?_
    refine fl_ret Try.func94 rfl (vs := [.int .i64 (-1)]) (fun h_ H_ => ⟨.int .i64 (-1), _, rfl, rfl, rfl⟩) (v := .int .i64 (-1)) rfl ?_
    have hl := D.len
    exact fun h_ H_ => K _ _ ⟨by first | (rw [idxF_some (k := k) (by omega) ‹_› hs]) | (rw [idxF_none (fun i hi => hs i (by omega))]), H_.kept⟩
theorem c71 (md : Md) (h : Heap) (p : PHeap) (hp : Per p h) (fv : Value) (a : Option Addr) (n c : Nat) (ds : List Day) (D : Days p a n ds) (hn : n ≤ 40) (q : Day → Bool) (hf : ∀ h, Per p h → ∀ i, i < n → CallV Try.prog md fv [.agg #[.int .i64 (ds.getD i dz).lo, .int .i64 (ds.getD i dz).hi, .int .i64 (ds.getD i dz).want]] h fun v h' => v = .bool (q (ds.getD i dz)) ∧ Keep h h') : CallsX Try.prog md 71 #[.slice a n c, fv] h fun v h' => v = .bool (decide (0 ≤ idxF q ds)) ∧ Keep h h' := by
  refine calls_intro (Φ := fun h_ => St h [] p h_ []) Try.func71 rfl (tm := [_, _, _, _, _, _, _, _, _]) rfl ?_ (St.start h _ hp)
  intro c₀ cs Stop K
  refine fl_seq ?_
  refine rl_start ?_
  refine rl_det (met_none rfl) (fun h_ H_ => exd_assign (v := .bool (false)) rfl) rfl ?_
  refine rl_end ?_
  refine fl_seq ?_
  refine rl_start ?_
  refine rl_det (met_none rfl) (fun h_ H_ => exd_move (v := .slice a n c) rfl) (tm' := _::_::_::_::_::_::_) rfl ?_
  refine rl_det (met_none rfl) (fun h_ H_ => exd_move (v := fv) rfl) rfl ?_
  refine rl_calld (met_none rfl) (first := []) (cap := []) rfl rfl fC94 (fun h_ H_ => c94 md _ _ (fun b_ o_ e_ => H_.per b_ o_ e_) fv _ _ _ _ D (by omega) q hf) rfl ?_
  refine rl_det (met_none rfl) (fun h_ H_ => exd_geq rfl rfl) (tm' := [_,_,_,_,_,_,_,_,_]) rfl ?_
  refine rl_det (met_none rfl) (fun h_ H_ => exd_assign (v := .bool (decide (0 ≤ idxF q ds))) rfl) rfl ?_
  refine rl_end ?_
  refine fl_ret Try.func71 rfl (vs := [.bool (decide (0 ≤ idxF q ds))]) (fun h_ H_ => ⟨.bool (decide (0 ≤ idxF q ds)), _, rfl, rfl, rfl⟩) (v := .bool (decide (0 ≤ idxF q ds))) rfl ?_
  exact fun h_ H_ => K _ _ ⟨rfl, H_.kept⟩
theorem c99 (md : Md) (h : Heap) (p : PHeap) (hp : Per p h) (fv : Value) (a : Option Addr) (n c : Nat) (ds : List Day) (D : Days p a n ds) (hn : n ≤ 40) (q : Day → Bool) (hf : ∀ h, Per p h → ∀ i, i < n → CallV Try.prog md fv [.agg #[.int .i64 (ds.getD i dz).lo, .int .i64 (ds.getD i dz).hi, .int .i64 (ds.getD i dz).want]] h fun v h' => v = .bool (q (ds.getD i dz)) ∧ Keep h h') : CallsX Try.prog md 99 #[.slice a n c, fv] h fun v h' => v = .int .i64 (idxF q ds) ∧ Keep h h' := by
  refine calls_intro (Φ := fun h_ => St h [] p h_ []) Try.func99 rfl (tm := [_, _, _, _, _, _, _, _, _, _, _, _, _, _, _, _, _, _, _]) rfl ?_ (St.start h _ hp)
  intro c₀ cs Stop K
  refine fl_seq ?_
  refine rl_start ?_
  refine rl_det (met_none rfl) (fun h_ H_ => exd_assign (v := .int .i64 0) rfl) rfl ?_
  refine rl_end ?_
  refine fl_seq ?_
  refine fl_seq ?_
  refine rl_start ?_
  refine rl_det (met_none rfl) (fun h_ H_ => exd_move (v := .slice a n c) rfl) (tm' := _::_::_::_::_::_::_::_) rfl ?_
  refine rl_det (met_none rfl) (fun h_ H_ => exd_len Try.underlying68 rfl) rfl ?_
  refine rl_det (met_none rfl) (fun h_ H_ => exd_move (v := .int .i64 0) rfl) rfl ?_
  refine rl_end ?_
  refine fl_block ?_
  refine fl_loop (m₀ := n - 0) (fun m_ tm_ h_ => ∃ (k : Nat), m_ = n - k ∧ (∃ y1 : Nat → Value, tm_ = [.slice a n c, fv, undef, undef, (y1 4), (y1 5), .slice a n c, .int .i64 (((n : Nat) : Int)), .int .i64 (((k : Nat) : Int)), (y1 9), (y1 10), (y1 11), (y1 12), (y1 13), (y1 14), (y1 15), (y1 16), (y1 17), (y1 18)]) ∧ (k ≤ n) ∧ (∀ i, i < k → q (ds.getD i dz) = false) ∧ St h [] p h_ ([])) (fun h_ H_ => ⟨0, rfl, (y_of rfl), Nat.zero_le _, (fun i hi => absurd hi (Nat.not_lt_zero i)), H_⟩) ?_
  intro m_ tm_ IH2
  refine rs_ex fun k => rs_and fun hm_ => rs_and fun ht_ => rs_and fun hk => rs_and fun hs => ?_
  subst hm_; obtain ⟨y1, ht_⟩ := ht_; subst ht_
  refine fl_seq ?_
  refine rl_start ?_
  refine rl_det (met_none rfl) (fun h_ H_ => exd_lss rfl rfl) (tm' := _::_::_::_::_::_::_::_::_::_::_) rfl ?_
  refine rl_end ?_
  refine fl_seq ?_
  by_cases cc3 : ((k : Nat) : Int) < ((n : Nat) : Int)
  · refine fl_then rfl (decide_eq_true cc3) ?_
    refine fl_skip ?_
    refine fl_seq ?_
    refine fl_block ?_
    refine fl_seq ?_
    refine rl_start ?_
    refine rl_det (met_none rfl) (fun h_ H_ => exd_move (v := .int .i64 (((k : Nat) : Int))) rfl) rfl ?_
    refine rl_det (met_none rfl) (fun h_ H_ => exd_assign (v := .int .i64 (((k : Nat) : Int))) rfl) rfl ?_
    refine rl_end ?_
    refine fl_seq ?_
    refine rl_start ?_
    refine rl_det (met_none rfl) (fun h_ H_ => exd_move (v := fv) rfl) (tm' := _::_::_::_::_::_::_::_::_::_::_::_::_) rfl ?_
    refine rl_det (met_none rfl) (fun h_ H_ => exd_move (v := .slice a n c) rfl) rfl ?_
    refine rl_det (met_none rfl) (fun h_ H_ => exd_move (v := .int .i64 (((k : Nat) : Int))) rfl) rfl ?_
    refine rl_det (met_none rfl) (fun h_ H_ => exd_indexAddrN (i := k) Try.underlying68 tS72 (sl_ne a n c (D.ne (by omega))) rfl (by omega)) (tm' := [_,_,_,_,_,_,_,_,_,_,_,_,_,_,_,_,_,_,_]) rfl ?_
    refine rl_det (met_none rfl) (fun h_ H_ => exd_loadN_per H_ tA72 tS72 rfl (vs := [.int .i64 ((ds.getD k dz).lo), .int .i64 ((ds.getD k dz).hi), .int .i64 ((ds.getD k dz).want)]) rfl (D.all (by omega))) rfl ?_
    refine rl_callvd (met_none rfl) rfl (vs := [.agg #[.int .i64 ((ds.getD k dz).lo), .int .i64 ((ds.getD k dz).hi), .int .i64 ((ds.getD k dz).want)]]) rfl (fun h_ H_ => hf h_ H_.per k (show k < n by omega)) rfl ?_
    refine rl_end ?_
    rcases bcases ((q (ds.getD k dz))) with cc4 | cc4
    · refine fl_then rfl cc4 ?_
      refine fl_seq ?_
      refine rl_start ?_
      refine rl_det (met_none rfl) (fun h_ H_ => exd_move (v := .int .i64 (((k : Nat) : Int))) rfl) (tm' := [_,_,_,_,_,_,_,_,_,_,_,_,_,_,_,_,_,_,_]) rfl ?_
      refine rl_det (met_none rfl) (fun h_ H_ => exd_assign (v := .int .i64 (((k : Nat) : Int))) rfl) rfl ?_
      refine rl_end ?_
      refine fl_ret Try.func99 rfl (vs := [.int .i64 (((k : Nat) : Int))]) (fun h_ H_ => ⟨.int .i64 (((k : Nat) : Int)), _, rfl, rfl, rfl⟩) (v := .int .i64 (((k : Nat) : Int))) rfl ?_
      have hl := D.len
      exact fun h_ H_ => K _ _ ⟨by first | (rw [idxF_some (k := k) (by omega) ‹_› hs]) | (rw [idxF_none (fun i hi => hs i (by omega))]), H_.kept⟩
    · refine fl_else rfl cc4 ?_
      refine fl_skip ?_
      refine fl_inBlock ?_
      refine rl_start ?_
      refine rl_det (met_none rfl) (fun h_ H_ => exd_add rfl rfl (n := ((k + 1 : Nat) : Int)) (wr (by omega))) rfl ?_
      refine rl_det (met_none rfl) (fun h_ H_ => exd_move (v := .int .i64 (((k + 1 : Nat) : Int))) rfl) (tm' := _::_::_::_::_::_::_::_::_::_) rfl ?_
      refine rl_end ?_
      exact fun h_ H_ => IH2 _ _ (by omega) h_ ⟨k + 1, rfl, (y_of rfl), (by omega), (idx_step hs ‹_›), H_⟩
  · refine fl_else rfl (decide_eq_false cc3) ?_
    refine fl_exit rfl ?_
    refine fl_seq ?_
    refine rl_start ?_
    refine rl_det (met_none rfl) (fun h_ H_ => exd_assign (v := .int .i64 (-1)) rfl) rfl ?_
    refine rl_end ?_
    refine fl_ret Try.func99 rfl (vs := [.int .i64 (-1)]) (fun h_ H_ => ⟨.int .i64 (-1), _, rfl, rfl, rfl⟩) (v := .int .i64 (-1)) rfl ?_
    have hl := D.len
    exact fun h_ H_ => K _ _ ⟨by first | (rw [idxF_some (k := k) (by omega) ‹_› hs]) | (rw [idxF_none (fun i hi => hs i (by omega))]), H_.kept⟩
theorem c32 (md : Md) (h : Heap) (p : PHeap) (hp : Per p h) (size start : Int) (a : Option Addr) (n c : Nat) (ds : List Day) (D : Days p a n ds) (hn : n ≤ 40) : CallsX Try.prog md 32 #[.agg #[.int .i64 (size), .int .i64 (start), .slice a n c]] h fun v h' => v = .int .i64 (chk size start ds) ∧ Keep h h' := by
  refine calls_intro (Φ := fun h_ => St h [] p h_ []) Try.func32 rfl (tm := [_, _, _, _, _, _, _, _, _, _, _, _, _, _, _, _, _, _, _, _, _, _, _, _, _, _, _, _]) rfl ?_ (St.start h _ hp)
  intro c₀ cs Stop K
  refine fl_seq ?_
  refine rl_start ?_
  refine rl_box (met_none rfl) (v := .agg #[.int .i64 (size), .int .i64 (start), .slice a n c]) rfl fun b1 => rl_own (L' := [(b1, .cells #[.int .i64 (size), .int .i64 (start), .slice a n c] 24 (0, 0))]) rfl ?_
  refine rl_det (met_none rfl) (fun h_ H_ => exd_assign (v := .int .i64 0) rfl) (tm' := _::_::_::_) rfl ?_
  refine rl_end ?_
  refine fl_seq ?_
  refine rl_start ?_
  refine rl_det (met_none rfl) (fun h_ H_ => exd_assign (v := .func (.func 69) #[] #[]) rfl) rfl ?_
  refine rl_end ?_
  refine fl_seq ?_
  refine fl_seq ?_
  refine rl_start ?_
  refine rl_det (met_none rfl) (fun h_ H_ => exd_fieldAddr tF24_0 rfl (a' := ⟨b1, 0, none⟩) rfl) rfl ?_
  refine rl_det (met_none rfl) (fun h_ H_ => exd_load_own H_ tA3 rfl (i := 0) rfl (v := .int .i64 (size)) rfl) (tm' := _::_::_::_::_::_::_) rfl ?_
  refine rl_calld (met_none rfl) (first := []) (cap := []) rfl rfl fC70 (fun h_ H_ => c70 md _ (size) (0) (60)) rfl ?_
  refine rl_det (met_none rfl) (fun h_ H_ => exd_not rfl) rfl ?_
  refine rl_det (met_none rfl) (fun h_ H_ => exd_move (v := .bool (!(decide (0 ≤ size ∧ size ≤ 60)))) rfl) (tm' := _::_::_::_::_::_::_::_::_::_) rfl ?_
  by_cases cc2 : 0 ≤ size ∧ size ≤ 60
  · refine rl_det (met_some rfl rfl (not_f (decide_eq_true cc2))) (fun h_ H_ => exd_fieldAddr tF24_1 rfl (a' := ⟨b1, 1, none⟩) rfl) rfl ?_
    refine rl_det (met_some rfl rfl (not_f (decide_eq_true cc2))) (fun h_ H_ => exd_load_own H_ tA3 rfl (i := 0) rfl (v := .int .i64 (start)) rfl) rfl ?_
    refine rl_det (met_some rfl rfl (not_f (decide_eq_true cc2))) (fun h_ H_ => exd_fieldAddr tF24_0 rfl (a' := ⟨b1, 0, none⟩) rfl) (tm' := _::_::_::_::_::_::_::_::_::_::_::_::_) rfl ?_
    refine rl_det (met_some rfl rfl (not_f (decide_eq_true cc2))) (fun h_ H_ => exd_load_own H_ tA3 rfl (i := 0) rfl (v := .int .i64 (size)) rfl) rfl ?_
    refine rl_calld (met_some rfl rfl (not_f (decide_eq_true cc2))) (first := []) (cap := []) rfl rfl fC70 (fun h_ H_ => c70 md _ (start) (0) (size)) rfl ?_
    refine rl_det (met_some rfl rfl (not_f (decide_eq_true cc2))) (fun h_ H_ => exd_not rfl) (tm' := _::_::_::_::_::_::_::_::_::_::_::_::_::_::_::_) rfl ?_
    refine rl_det (met_none rfl) (fun h_ H_ => exd_pick_f rfl (not_f (decide_eq_true cc2)) (v := .bool (!(decide (0 ≤ start ∧ start ≤ size)))) rfl) rfl ?_
    refine rl_det (met_none rfl) (fun h_ H_ => exd_move (v := .bool (!(decide (0 ≤ start ∧ start ≤ size)))) rfl) rfl ?_
    by_cases cc3 : 0 ≤ start ∧ start ≤ size
    · refine rl_det (met_some rfl rfl (not_f (decide_eq_true cc3))) (fun h_ H_ => exd_fieldAddr tF24_2 rfl (a' := ⟨b1, 2, none⟩) rfl) (tm' := _::_::_::_::_::_::_::_::_::_::_::_::_::_::_::_::_::_::_) rfl ?_
      refine rl_det (met_some rfl rfl (not_f (decide_eq_true cc3))) (fun h_ H_ => exd_load_own H_ tA22 rfl (i := 0) rfl (v := .slice a n c) rfl) rfl ?_
      refine rl_det (met_some rfl rfl (not_f (decide_eq_true cc3))) (fun h_ H_ => exd_len Try.underlying22 rfl) rfl ?_
      refine rl_det (met_some rfl rfl (not_f (decide_eq_true cc3))) (fun h_ H_ => exd_gtr rfl rfl) (tm' := [_,_,_,_,_,_,_,_,_,_,_,_,_,_,_,_,_,_,_,_,_,_,_,_,_,_,_,_]) rfl ?_
      refine rl_det (met_none rfl) (fun h_ H_ => exd_pick_f rfl (not_f (decide_eq_true cc3)) (v := .bool (decide (8 < ((n : Nat) : Int)))) rfl) rfl ?_
      refine rl_det (met_none rfl) (fun h_ H_ => exd_move (v := .bool (decide (8 < ((n : Nat) : Int)))) rfl) rfl ?_
      by_cases cc4 : 8 < ((n : Nat) : Int)
      · refine rl_pass (met_not rfl rfl (decide_eq_true cc4)) (tm' := [_,_,_,_,_,_,_,_,_,_,_,_,_,_,_,_,_,_,_,_,_,_,_,_,_,_,_,_]) rfl ?_
        refine rl_pass (met_not rfl rfl (decide_eq_true cc4)) rfl ?_
        refine rl_pass (met_not rfl rfl (decide_eq_true cc4)) rfl ?_
        refine rl_pass (met_not rfl rfl (decide_eq_true cc4)) (tm' := [_,_,_,_,_,_,_,_,_,_,_,_,_,_,_,_,_,_,_,_,_,_,_,_,_,_,_,_]) rfl ?_
        refine rl_det (met_none rfl) (fun h_ H_ => exd_pick_t rfl (decide_eq_true cc4) (v := .bool (true)) rfl) rfl ?_
        refine rl_end ?_
        refine fl_then rfl rfl ?_
        refine fl_seq ?_
        refine rl_start ?_
        refine rl_det (met_none rfl) (fun h_ H_ => exd_assign (v := .int .i64 100) rfl) rfl ?_
        refine rl_end ?_
        refine fl_ret Try.func32 rfl (vs := [.int .i64 100]) (fun h_ H_ => ⟨.int .i64 100, _, rfl, rfl, rfl⟩) (v := .int .i64 100) rfl ?_
        have hl := D.len
        exact fun h_ H_ => K _ _ ⟨by first | (rw [chk_good (by omega) (by omega) (by omega) (by omega)]) | (rw [chk_bad (by omega)]), H_.kept⟩
      · refine rl_det (met_some rfl rfl (decide_eq_false cc4)) (fun h_ H_ => exd_fieldAddr tF24_2 rfl (a' := ⟨b1, 2, none⟩) rfl) (tm' := [_,_,_,_,_,_,_,_,_,_,_,_,_,_,_,_,_,_,_,_,_,_,_,_,_,_,_,_]) rfl ?_
        refine rl_det (met_some rfl rfl (decide_eq_false cc4)) (fun h_ H_ => exd_load_own H_ tA22 rfl (i := 0) rfl (v := .slice a n c) rfl) rfl ?_
        refine rl_det (met_some rfl rfl (decide_eq_false cc4)) (fun h_ H_ => exd_move (v := .func (.func 69) #[] #[]) rfl) rfl ?_
        refine rl_calld (met_some rfl rfl (decide_eq_false cc4)) (first := []) (cap := []) rfl rfl fC71 (fun h_ H_ => c71 md _ _ (fun b_ o_ e_ => H_.per b_ o_ e_) (.func (.func 69) #[] #[]) _ _ _ _ D (by omega) badDay (fun h_ hp_ i_ hi_ => callv_of fC69 (c69 md _ _))) (tm' := [_,_,_,_,_,_,_,_,_,_,_,_,_,_,_,_,_,_,_,_,_,_,_,_,_,_,_,_]) rfl ?_
        refine rl_det (met_none rfl) (fun h_ H_ => exd_pick_f rfl (decide_eq_false cc4) (v := .bool (decide (0 ≤ idxF badDay ds))) rfl) rfl ?_
        refine rl_end ?_
        by_cases cc5 : 0 ≤ idxF badDay ds
        · refine fl_then rfl (decide_eq_true cc5) ?_
          refine fl_seq ?_
          refine rl_start ?_
          refine rl_det (met_none rfl) (fun h_ H_ => exd_assign (v := .int .i64 100) rfl) rfl ?_
          refine rl_end ?_
          refine fl_ret Try.func32 rfl (vs := [.int .i64 100]) (fun h_ H_ => ⟨.int .i64 100, _, rfl, rfl, rfl⟩) (v := .int .i64 100) rfl ?_
          have hl := D.len
          exact fun h_ H_ => K _ _ ⟨by first | (rw [chk_good (by omega) (by omega) (by omega) (by omega)]) | (rw [chk_bad (by omega)]), H_.kept⟩
        · refine fl_else rfl (decide_eq_false cc5) ?_
          refine fl_skip ?_
          refine fl_seq ?_
          refine rl_start ?_
          refine rl_det (met_none rfl) (fun h_ H_ => exd_assign (v := .int .i64 0) rfl) (tm' := _::_::_::_) rfl ?_
          refine rl_end ?_
          refine fl_ret Try.func32 rfl (vs := [.int .i64 0]) (fun h_ H_ => ⟨.int .i64 0, _, rfl, rfl, rfl⟩) (v := .int .i64 0) rfl ?_
          have hl := D.len
          exact fun h_ H_ => K _ _ ⟨by first | (rw [chk_good (by omega) (by omega) (by omega) (by omega)]) | (rw [chk_bad (by omega)]), H_.kept⟩
    · refine rl_pass (met_not rfl rfl (not_t (decide_eq_false cc3))) rfl ?_
      refine rl_pass (met_not rfl rfl (not_t (decide_eq_false cc3))) rfl ?_
      refine rl_pass (met_not rfl rfl (not_t (decide_eq_false cc3))) (tm' := [_,_,_,_,_,_,_,_,_,_,_,_,_,_,_,_,_,_,_,_,_,_,_,_,_,_,_,_]) rfl ?_
      refine rl_pass (met_not rfl rfl (not_t (decide_eq_false cc3))) rfl ?_
      refine rl_det (met_none rfl) (fun h_ H_ => exd_pick_t rfl (not_t (decide_eq_false cc3)) (v := .bool (true)) rfl) rfl ?_
      refine rl_det (met_none rfl) (fun h_ H_ => exd_move (v := .bool (true)) rfl) (tm' := [_,_,_,_,_,_,_,_,_,_,_,_,_,_,_,_,_,_,_,_,_,_,_,_,_,_,_,_]) rfl ?_
      refine rl_pass (met_not rfl rfl rfl) rfl ?_
      refine rl_pass (met_not rfl rfl rfl) rfl ?_
      refine rl_pass (met_not rfl rfl rfl) (tm' := [_,_,_,_,_,_,_,_,_,_,_,_,_,_,_,_,_,_,_,_,_,_,_,_,_,_,_,_]) rfl ?_
      refine rl_pass (met_not rfl rfl rfl) rfl ?_
      refine rl_det (met_none rfl) (fun h_ H_ => exd_pick_t rfl rfl (v := .bool (true)) rfl) rfl ?_
      refine rl_end ?_
      refine fl_then rfl rfl ?_
      refine fl_seq ?_
      refine rl_start ?_
      refine rl_det (met_none rfl) (fun h_ H_ => exd_assign (v := .int .i64 100) rfl) (tm' := _::_::_::_) rfl ?_
      refine rl_end ?_
      refine fl_ret Try.func32 rfl (vs := [.int .i64 100]) (fun h_ H_ => ⟨.int .i64 100, _, rfl, rfl, rfl⟩) (v := .int .i64 100) rfl ?_
      have hl := D.len
      exact fun h_ H_ => K _ _ ⟨by first | (rw [chk_good (by omega) (by omega) (by omega) (by omega)]) | (rw [chk_bad (by omega)]), H_.kept⟩
  · refine rl_pass (met_not rfl rfl (not_t (decide_eq_false cc2))) rfl ?_
    refine rl_pass (met_not rfl rfl (not_t (decide_eq_false cc2))) rfl ?_
    refine rl_pass (met_not rfl rfl (not_t (decide_eq_false cc2))) (tm' := _::_::_::_::_::_::_::_::_::_::_::_::_) rfl ?_
    refine rl_pass (met_not rfl rfl (not_t (decide_eq_false cc2))) rfl ?_
    refine rl_pass (met_not rfl rfl (not_t (decide_eq_false cc2))) rfl ?_
    refine rl_pass (met_not rfl rfl (not_t (decide_eq_false cc2))) (tm' := _::_::_::_::_::_::_::_::_::_::_::_::_::_::_::_) rfl ?_
    refine rl_det (met_none rfl) (fun h_ H_ => exd_pick_t rfl (not_t (decide_eq_false cc2)) (v := .bool (true)) rfl) rfl ?_
    refine rl_det (met_none rfl) (fun h_ H_ => exd_move (v := .bool (true)) rfl) rfl ?_
    refine rl_pass (met_not rfl rfl rfl) (tm' := _::_::_::_::_::_::_::_::_::_::_::_::_::_::_::_::_::_::_) rfl ?_
    refine rl_pass (met_not rfl rfl rfl) rfl ?_
    refine rl_pass (met_not rfl rfl rfl) rfl ?_
    refine rl_pass (met_not rfl rfl rfl) (tm' := [_,_,_,_,_,_,_,_,_,_,_,_,_,_,_,_,_,_,_,_,_,_,_,_,_,_,_,_]) rfl ?_
    refine rl_det (met_none rfl) (fun h_ H_ => exd_pick_t rfl rfl (v := .bool (true)) rfl) rfl ?_
    refine rl_det (met_none rfl) (fun h_ H_ => exd_move (v := .bool (true)) rfl) rfl ?_
    refine rl_pass (met_not rfl rfl rfl) (tm' := [_,_,_,_,_,_,_,_,_,_,_,_,_,_,_,_,_,_,_,_,_,_,_,_,_,_,_,_]) rfl ?_
    refine rl_pass (met_not rfl rfl rfl) rfl ?_
    refine rl_pass (met_not rfl rfl rfl) rfl ?_
    refine rl_pass (met_not rfl rfl rfl) (tm' := [_,_,_,_,_,_,_,_,_,_,_,_,_,_,_,_,_,_,_,_,_,_,_,_,_,_,_,_]) rfl ?_
    refine rl_det (met_none rfl) (fun h_ H_ => exd_pick_t rfl rfl (v := .bool (true)) rfl) rfl ?_
    refine rl_end ?_
    refine fl_then rfl rfl ?_
    refine fl_seq ?_
    refine rl_start ?_
    refine rl_det (met_none rfl) (fun h_ H_ => exd_assign (v := .int .i64 100) rfl) rfl ?_
    refine rl_end ?_
    refine fl_ret Try.func32 rfl (vs := [.int .i64 100]) (fun h_ H_ => ⟨.int .i64 100, _, rfl, rfl, rfl⟩) (v := .int .i64 100) rfl ?_
    have hl := D.len
    exact fun h_ H_ => K _ _ ⟨by first | (rw [chk_good (by omega) (by omega) (by omega) (by omega)]) | (rw [chk_bad (by omega)]), H_.kept⟩
theorem c65 (md : Md) (h : Heap) (p : PHeap) (hp : Per p h) (size start : Int) (a : Option Addr) (n c : Nat) (ds : List Day) (D : Days p a n ds) (hn : n ≤ 40) (t : Bool) : CallsX Try.prog md 65 #[.agg #[.int .i64 (size), .int .i64 (start), .slice a n c], .bool (t)] h fun v h' => v = .int .i64 (askd size start ds t) ∧ Keep h h' := by
  refine calls_intro (Φ := fun h_ => St h [] p h_ []) Try.func65 rfl (tm := [_, _, _, _, _, _, _, _, _, _, _, _, _]) rfl ?_ (St.start h _ hp)
  intro c₀ cs Stop K
  refine fl_seq ?_
  refine rl_start ?_
  refine rl_box (met_none rfl) (v := .agg #[.int .i64 (size), .int .i64 (start), .slice a n c]) rfl fun b1 => rl_own (L' := [(b1, .cells #[.int .i64 (size), .int .i64 (start), .slice a n c] 24 (0, 0))]) rfl ?_
  refine rl_norm (tm' := _::_::_::_) rfl ?_
  refine rl_det (met_none rfl) (fun h_ H_ => exd_assign (v := .int .i64 0) rfl) rfl ?_
  refine rl_end ?_
  refine fl_seq ?_
  refine fl_seq ?_
  refine rl_start ?_
  refine rl_det (met_none rfl) (fun h_ H_ => exd_loadN_own H_ tA24 tS24 rfl (i := 0) rfl (vs := [.int .i64 (size), .int .i64 (start), .slice a n c]) rfl rfl) rfl ?_
  refine rl_calld (met_none rfl) (first := []) (cap := []) rfl rfl fC32 (fun h_ H_ => c32 md _ _ (fun b_ o_ e_ => H_.per b_ o_ e_) (size) (start) _ _ _ _ D (by omega)) (tm' := _::_::_::_::_::_::_::_::_) rfl ?_
  refine rl_det (met_none rfl) (fun h_ H_ => exd_assign (v := .int .i64 (chk (size) (start) ds)) rfl) rfl ?_
  refine rl_end ?_
  refine fl_seq ?_
  refine rl_start ?_
  refine rl_det (met_none rfl) (fun h_ H_ => exd_move (v := .int .i64 (chk (size) (start) ds)) rfl) rfl ?_
  refine rl_det (met_none rfl) (fun h_ H_ => exd_neq rfl rfl) (tm' := [_,_,_,_,_,_,_,_,_,_,_,_,_]) rfl ?_
  refine rl_end ?_
  by_cases cc2 : chk (size) (start) ds ≠ 0
  · refine fl_then rfl (decide_eq_true cc2) ?_
    refine fl_seq ?_
    refine rl_start ?_
    refine rl_det (met_none rfl) (fun h_ H_ => exd_move (v := .int .i64 (chk (size) (start) ds)) rfl) rfl ?_
    refine rl_det (met_none rfl) (fun h_ H_ => exd_assign (v := .int .i64 (chk (size) (start) ds)) rfl) rfl ?_
    refine rl_end ?_
    refine fl_ret Try.func65 rfl (vs := [.int .i64 (chk (size) (start) ds)]) (fun h_ H_ => ⟨.int .i64 (chk (size) (start) ds), _, rfl, rfl, rfl⟩) (v := .int .i64 (chk (size) (start) ds)) rfl ?_
    exact fun h_ H_ => K _ _ ⟨by unfold askd; unfold chk at *; split <;> simp_all, H_.kept⟩
  · refine fl_else rfl (decide_eq_false cc2) ?_
    refine fl_skip ?_
    refine fl_seq ?_
    refine fl_seq ?_
    refine rl_start ?_
    refine rl_det (met_none rfl) (fun h_ H_ => exd_move (v := .bool (t)) rfl) (tm' := [_,_,_,_,_,_,_,_,_,_,_,_,_]) rfl ?_
    refine rl_det (met_none rfl) (fun h_ H_ => exd_not rfl) rfl ?_
    refine rl_end ?_
    rcases bcases (t) with cc3 | cc3
    · refine fl_else rfl (not_f cc3) ?_
      refine fl_skip ?_
      refine fl_seq ?_
      refine rl_start ?_
      refine rl_det (met_none rfl) (fun h_ H_ => exd_assign (v := .int .i64 0) rfl) rfl ?_
      refine rl_end ?_
      refine fl_ret Try.func65 rfl (vs := [.int .i64 0]) (fun h_ H_ => ⟨.int .i64 0, _, rfl, rfl, rfl⟩) (v := .int .i64 0) rfl ?_
      exact fun h_ H_ => K _ _ ⟨by unfold askd; unfold chk at *; split <;> simp_all, H_.kept⟩
    · refine fl_then rfl (not_t cc3) ?_
      refine fl_seq ?_
      refine rl_start ?_
      refine rl_det (met_none rfl) (fun h_ H_ => exd_assign (v := .int .i64 1) rfl) (tm' := _::_::_::_::_::_) rfl ?_
      refine rl_end ?_
      refine fl_ret Try.func65 rfl (vs := [.int .i64 1]) (fun h_ H_ => ⟨.int .i64 1, _, rfl, rfl, rfl⟩) (v := .int .i64 1) rfl ?_
      exact fun h_ H_ => K _ _ ⟨by unfold askd; unfold chk at *; split <;> simp_all, H_.kept⟩
end Go.Proofs.Ytbmkacnlhlbnjaa
