/- Atoms; keys of epochs. -/
import Derived.Test.YtkipdpamkchnoaaSpRName
import Derived.Test.YtkipdpamkchnoaaSpNums
import Derived.Test.YtkipdpamkchnoaaFns
set_option linter.all false
namespace Go.AI
variable {A : Type} {R : Adts A}
/-- A term is made: the terms behind it, the name, the error. -/
def cMade (m : Int) (ts : List Bs) (s : Bs) : List Bs × Int × Int := if (bName m ts s).2.2 = 0 then bName m ts s else ((bName m ts s).1, 0, 300)
theorem cMade_ok {m : Int} {ts : List Bs} {s : Bs} (h : bOk m ts) : bOk m (cMade m ts s).1 := by
  unfold cMade; split <;> exact bName_ok h
section craft
variable {mk : Int → List Bs → A}
theorem craft_named_ok (hR : R.Ok) (hB : HasBook R mk) {m : Int} {ts : List Bs} (hok : bOk m ts) (s : Bs) {h : AHeap A} {b : Nat} (hb : h[b]? = some (.adt (mk m ts))) {K : AVal → AHeap A → Prop}
    (hk : K (.tup [.int .i64 (cMade m ts s).2.1, .int .i64 (cMade m ts s).2.2]) (h.set b (.adt (mk m (cMade m ts s).1)))) : Tri Pr R n_craft_named [.ptr b 0, .str s, .bool true] h K := by
  apply c_craft_named
  unfold p_craft_named
  simp
  refine book_Name_ok hR hB hok s hb ?_
  simp only [cMade] at hk
  by_cases h1 : (bName m ts s).2.2 = 0
  · simp only [h1, if_true] at hk
    simp [h1]; exact hk
  · simp only [h1, if_false] at hk
    simp
    exact iteP_of (fun _ => hk) (fun h2 => by simp [h1] at h2)
/-- What is within an epoch's key. -/
def eTerm (x : Int) : Bs := [101, 112, 111, 99, 104] ++ nS x
theorem eTerm_len (x : Int) : (eTerm x).length ≤ 10 := by have := nS_len x; simp [eTerm]; omega
def rKey (m : Int) (ts : List Bs) (x : Int) : List Bs × Int × Int :=
  if nMay x = true then (if (cMade m ts (65 :: eTerm x)).2.2 = 0 then cMade m ts (65 :: eTerm x) else ((cMade m ts (65 :: eTerm x)).1, 0, 1400)) else (ts, 0, 1400)
theorem rKey_ok {m : Int} {ts : List Bs} {x : Int} (h : bOk m ts) : bOk m (rKey m ts x).1 := by
  unfold rKey; split
  · split <;> exact cMade_ok h
  · exact h
end craft
section ref
variable {mk : Int → List Bs → A}
theorem ref1_made_ok (hR : R.Ok) (hB : HasRBook R mk) {m : Int} {ts : List Bs} (hok : bOk m ts) (s : Bs) {h : AHeap A} {b : Nat} (hb : h[b]? = some (.adt (mk m ts))) {K : AVal → AHeap A → Prop}
    (hk : K (.tup [.int .i64 (cMade m ts s).2.1, .int .i64 (cMade m ts s).2.2]) (h.set b (.adt (mk m (cMade m ts s).1)))) : Tri Pr R n_ref1_Book_made [.ptr b 0, .str s] h K := by
  apply c_ref1_Book_made
  unfold p_ref1_Book_made
  refine rbook_Name_ok hR hB hok s hb ?_
  simp only [cMade] at hk
  by_cases h1 : (bName m ts s).2.2 = 0
  · simp only [h1, if_true] at hk
    simp [h1]; exact hk
  · simp only [h1, if_false] at hk
    simp
    exact iteP_of (fun _ => hk) (fun h2 => by simp [h1] at h2)
end ref
def rLive (e now keep : Int) : Bool := nMay e && nMay now && nMay keep && decide (e ≤ now) && decide (now - e ≤ keep)
end Go.AI
