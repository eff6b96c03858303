import PyProof.Rows.All
import Wide.All
import OpenK.AllK
import Wide.FinOn
import PyProof.EqAt
import PyProof.EqKinds
import PyProof.TupleCall
import Open.SpecLaws
import KE.OsGo
import HandS.ForSpec
import HandS.ExcSuper
import HandS.ExcInit
import HandS.ExcField
import HandS.Comp
import HandS.Iter
import HandS.Text
import PySem.Challenge.RW_takehouse_s01_answers
set_option Elab.async false
set_option linter.all false
-- the part TkMath
/-! The mirror of the program as plain Lean, and that it answers as the specification says. -/
namespace Tk
open CsBase

/-! ### the mirror -/
structure Tak where
  par : Int
  ahd : Nat
  pads : List Nat
  marks : List Nat
structure Hs where
  lo : List Nat
  ts : List Tak
  here : Nat
  pl : Nat
  m : Mach
def tnone : Tak := ⟨-1, 0, [], []⟩
def Hs.tk (h : Hs) (k : Nat) : Tak := h.ts.getD k tnone
def Hs.cur (h : Hs) : Tak := h.tk h.here
def padded (l : List Nat) : List Nat := l ++ List.replicate (128 - l.length) 0
def fresh (l : List Nat) : Hs := ⟨padded l, [tnone], 0, 0, loaded (padded l)⟩
def ahead (h : Hs) (t : Tak) (n : Nat) : Mach := frames (loaded h.lo) (t.pads.take n)
def goTo (h : Hs) (k n : Nat) : Hs := { h with here := k, pl := n, m := ahead h (h.tk k) n }
def playOn (h : Hs) (n : Nat) : Hs := { h with pl := h.pl + ((h.cur.pads.drop h.pl).take n).length, m := frames h.m ((h.cur.pads.drop h.pl).take n) }
def Tak.more (t : Tak) (v k : Nat) : Tak := { t with pads := t.pads ++ [v], marks := t.marks ++ [k] }
def Hs.branch (h : Hs) : Tak := ⟨(h.here : Int), h.pl, h.cur.pads.take h.pl, h.cur.marks.take h.pl⟩
def playPad (h : Hs) (v : Nat) : Hs :=
  if h.pl < h.cur.pads.length then
    { h with ts := h.ts ++ [h.branch.more v (mark (frame h.m v))], here := h.ts.length, pl := h.pl + 1, m := frame h.m v }
  else
    { h with ts := h.ts.set h.here (h.cur.more v (mark (frame h.m v))), pl := h.pl + 1, m := frame h.m v }
def playAll (h : Hs) (l : List Nat) : Hs := l.foldl playPad h
def wh (h : Hs) : List Int := [(h.here : Int), (h.pl : Int), (mark h.m : Int)]
def room (h : Hs) (k p n : Nat) : Bool := decide (n = 0) || (decide (p + n ≤ 60) && (decide (p = (h.tk k).pads.length) || decide (h.ts.length < 12)))
def isTk (h : Hs) (k : Int) : Bool := decide (0 ≤ k) && decide (k < (h.ts.length : Int))
abbrev Res := Except Int (Hs × List Int)
def mBegin (l : List Int) : Res := if l.length ≤ 128 ∧ l.all Cs05.isByte = true then .ok (fresh (l.map Int.toNat), [0]) else .error (-1)
def done (h : Hs) : Res := .ok (h, wh h)
def mPlay (h : Hs) (l : List Int) : Res :=
  if l.all Cs05.isByte = true then (if room h h.here h.pl l.length = true then done (playAll h (l.map Int.toNat)) else .error (-5)) else .error (-1)
def mOn (h : Hs) (n : Int) : Res := if 0 ≤ n then done (playOn h n.toNat) else .error (-1)
def mGo (h : Hs) (k t : Int) : Res :=
  if isTk h k = true then (if 0 ≤ t ∧ t ≤ ((h.tk k.toNat).pads.length : Int) then done (goTo h k.toNat t.toNat) else .error (-3)) else .error (-2)
def toldTake (t : Tak) : List Int := [t.par + 1, (t.ahd : Int), (t.pads.length : Int)]
def mTakes (h : Hs) : Res := .ok (h, (h.ts.length : Int) :: h.ts.flatMap toldTake)
def intsN (l : List Nat) : List Int := l.map Int.ofNat
def mPads (h : Hs) (k : Int) : Res :=
  if isTk h k = true then .ok (h, ((h.tk k.toNat).pads.length : Int) :: intsN (h.tk k.toNat).pads) else .error (-2)
def mPut (h : Hs) (k a b : Int) : Res :=
  if isTk h k = true then
    (if 0 ≤ a ∧ a ≤ b ∧ b ≤ ((h.tk k.toNat).pads.length : Int) then
      (if room h h.here h.pl (((h.tk k.toNat).pads.take b.toNat).drop a.toNat).length = true then done (playAll h (((h.tk k.toNat).pads.take b.toNat).drop a.toNat)) else .error (-5))
     else .error (-3))
  else .error (-2)
def isFr (h : Hs) (t : Int) : Bool := decide (0 ≤ t) && decide (t < (h.cur.pads.length : Int))
def mCut (h : Hs) (t : Int) : Res :=
  if isFr h t = true then
    (if room h h.here t.toNat (h.cur.pads.drop (t.toNat + 1)).length = true then done (playAll (goTo h h.here t.toNat) (h.cur.pads.drop (t.toNat + 1))) else .error (-5))
  else .error (-3)
def opt (o : Option Nat) : List Int := match o with
  | none => [0]
  | some n => [1, (n : Int)]
def mParts (h : Hs) (a b : Int) : Res :=
  if isTk h a = true then (if isTk h b = true then
    .ok (h, (Cs05.parts (h.tk a.toNat).pads (h.tk b.toNat).pads 0 : Int) :: opt (Cs05.partsAt (loaded h.lo) (loaded h.lo) (h.tk a.toNat).pads (h.tk b.toNat).pads 0))
    else .error (-2)) else .error (-2)
def mFree (h : Hs) (t : Int) : Res :=
  if isFr h t = true then .ok (h, [(Cs05.free (ahead h h.cur t.toNat) (h.cur.pads.getD t.toNat 0) : Int)]) else .error (-3)
def mState (h : Hs) : Res := .ok (h, intsN (told h.m))
def patched (h : Hs) (p b : Nat) : Hs := { h with lo := h.lo.set p b }
def mPatch (h : Hs) (p b : Int) : Res :=
  if (0 ≤ p ∧ p < 128) ∧ Cs05.isByte b = true then .ok (goTo (patched h p.toNat b.toNat) h.here h.pl, [(h.lo.getD p.toNat 0 : Int)]) else .error (-1)
def mStrays (h : Hs) (k : Int) : Res :=
  if isTk h k = true then .ok (h, opt (Cs05.strays (loaded h.lo) ((h.tk k.toNat).pads.zip (h.tk k.toNat).marks) 0)) else .error (-2)
def mcall (h : Hs) : Cs05.Call → Res
  | .begin_ l => mBegin l
  | .play l => mPlay h l
  | .on n => mOn h n
  | .go k t => mGo h k t
  | .takes => mTakes h
  | .pads k => mPads h k
  | .put k a b => mPut h k a b
  | .cut t => mCut h t
  | .parts a b => mParts h a b
  | .free t => mFree h t
  | .state => mState h
  | .patch p v => mPatch h p v
  | .strays k => mStrays h k
def res (h : Hs) (r : Res) : Hs × List Int := match r with
  | .error n => (h, [n])
  | .ok x => x

/-! ### what is always so -/
structure Wf (m : Mach) : Prop where
  size : m.mem.size = 128
  bytes : ∀ b ∈ m.mem.toList, b < 256
  a : m.a < 256
structure GoodT (t : Tak) : Prop where
  len : t.pads.length ≤ 60
  marks : t.marks.length = t.pads.length
  bytes : ∀ v ∈ t.pads, v < 256
structure Good (h : Hs) : Prop where
  lo : h.lo.length = 128
  bytes : ∀ b ∈ h.lo, b < 256
  most : h.ts.length ≤ 12
  here : h.here < h.ts.length
  pl : h.pl ≤ h.cur.pads.length
  tks : ∀ t ∈ h.ts, GoodT t
  m : Wf h.m
end Tk
-- the part TkLaw
namespace Tk
open CsBase

/-! ### the machine stays well formed -/
theorem mem_set {l : List Nat} {i v : Nat} {P : Nat → Prop} (h : ∀ b ∈ l, P b) (hv : P v) : ∀ b ∈ l.set i v, P b := fun b hb => by
  rcases List.mem_or_eq_of_mem_set hb with h1 | h1
  · exact h b h1
  · rw [h1]; exact hv
theorem put_mem (m : Mach) (p v : Nat) : (put m p v).mem.toList = m.mem.toList.set (p % 128) (v % 256) := by
  show (m.mem.setIfInBounds (p % 128) (v % 256)).toList = _
  rw [Array.toList_setIfInBounds]
theorem put_size (m : Mach) (p v : Nat) : (put m p v).mem.size = m.mem.size := by
  show (m.mem.setIfInBounds (p % 128) (v % 256)).size = _
  rw [Array.size_setIfInBounds]
theorem Wf.put {m : Mach} (w : Wf m) (p v : Nat) : Wf (put m p v) := by
  refine ⟨(put_size m p v).trans w.size, ?_, w.a⟩
  rw [put_mem]
  exact mem_set w.bytes (Nat.mod_lt _ (by decide))
theorem Wf.inA {m : Mach} (w : Wf m) (v : Nat) : Wf (inA m v) := ⟨w.size, w.bytes, Nat.mod_lt _ (by decide)⟩
theorem Wf.inX {m : Mach} (w : Wf m) (v : Nat) : Wf (inX m v) := ⟨w.size, w.bytes, w.a⟩
theorem Wf.pc {m : Mach} (w : Wf m) (v : Nat) : Wf { m with pc := v } := ⟨w.size, w.bytes, w.a⟩
theorem Wf.c {m : Mach} (w : Wf m) (v : Bool) : Wf { m with c := v } := ⟨w.size, w.bytes, w.a⟩
theorem byteAt_toList (m : Mach) (p : Nat) : byteAt m p = m.mem.toList.getD (p % 128) 0 := by
  show m.mem.getD (p % 128) 0 = _
  rw [Array.getD_eq_getD_getElem?, List.getD_eq_getElem?_getD, Array.getElem?_toList]
theorem Wf.byte {m : Mach} (w : Wf m) (p : Nat) : byteAt m p < 256 := by
  rw [byteAt_toList, List.getD_eq_getElem?_getD]
  cases e : m.mem.toList[p % 128]? with
  | none => exact (by decide : 0 < 256)
  | some b => exact w.bytes b (List.mem_of_getElem? e)
theorem Wf.step {m : Mach} (w : Wf m) : Wf (step m) := by
  unfold CsBase.step
  dsimp only
  split
  · exact (w.pc _).inA _
  · exact (w.pc _).inA _
  · exact (w.pc _).put _ _
  · exact (w.pc _).inA _
  · exact (w.pc _).put _ _
  · exact (w.pc _).inX _
  · exact (w.pc _).inX _
  · exact ((w.pc _).inA _).c _
  · exact ((w.pc _).inA _).c _
  · exact (w.pc _).inA _
  · exact (w.pc _).inA _
  · exact w.pc _
  · split <;> exact w.pc _
  · split <;> exact w.pc _
  · split <;> exact w.pc _
  · exact w.pc _
theorem Wf.upTo : ∀ (n : Nat) {m : Mach}, Wf m → Wf (upTo n m)
  | 0, _, w => w
  | n + 1, m, w => by
    show Wf (if rests m = true then CsBase.step m else CsBase.upTo n (CsBase.step m))
    split
    · exact w.step
    · exact Wf.upTo n w.step
theorem Wf.frame {m : Mach} (w : Wf m) (p : Nat) : Wf (frame m p) := (w.put _ _).upTo _
theorem Wf.frames : ∀ {l : List Nat} {m : Mach}, Wf m → Wf (frames m l)
  | [], _, w => w
  | v :: l, m, w => Wf.frames (l := l) (w.frame v)
theorem frames_nil (m : Mach) : frames m [] = m := rfl
theorem frames_cons (m : Mach) (v : Nat) (l : List Nat) : frames m (v :: l) = frames (frame m v) l := rfl
theorem frames_append (m : Mach) (l r : List Nat) : frames m (l ++ r) = frames (frames m l) r := List.foldl_append ..
theorem push_fold : ∀ (l : List Nat) (f : Nat → Nat) (w : Array Nat), (l.foldl (fun (w : Array Nat) (i : Nat) => w.push (f i)) w).toList = w.toList ++ l.map f
  | [], f, w => by simp
  | x :: l, f, w => by
    rw [List.foldl_cons, push_fold l, Array.toList_push, List.map_cons, List.append_assoc]
    rfl
theorem loaded_mem (l : List Nat) : (loaded l).mem.toList = (List.range 128).map fun i => l.getD i 0 % 256 := by
  show ((List.range SIZE).foldl (fun (w : Array Nat) (i : Nat) => w.push (l.getD i 0 % 256)) #[]).toList = _
  rw [push_fold]
  rfl
theorem Wf.loaded (l : List Nat) : Wf (loaded l) := by
  refine ⟨?_, ?_, (by decide : 0 < 256)⟩
  · rw [← Array.length_toList, loaded_mem, List.length_map, List.length_range]
  · rw [loaded_mem]
    intro b hb
    obtain ⟨i, _, rfl⟩ := List.mem_map.mp hb
    exact Nat.mod_lt _ (by decide)
theorem mach_ext {m n : Mach} (h1 : m.mem.toList = n.mem.toList) (h2 : m.a = n.a) (h3 : m.x = n.x) (h4 : m.pc = n.pc) (h5 : m.z = n.z) (h6 : m.c = n.c) : m = n := by
  obtain ⟨a1, a2, a3, a4, a5, a6⟩ := m
  obtain ⟨b1, b2, b3, b4, b5, b6⟩ := n
  dsimp only at h1 h2 h3 h4 h5 h6
  subst h2 h3 h4 h5 h6
  have e : a1 = b1 := Array.toList_inj.mp h1
  rw [e]
theorem loaded_eq {l r : List Nat} (h : ∀ i, i < 128 → l.getD i 0 = r.getD i 0) : loaded l = loaded r := by
  refine mach_ext ?_ rfl rfl rfl rfl rfl
  rw [loaded_mem, loaded_mem]
  refine List.map_congr_left fun i hi => ?_
  rw [h i (List.mem_range.mp hi)]
/-- loaded with 128 bytes: just these -/
theorem loaded_bytes {l : List Nat} (hl : l.length = 128) (hb : ∀ b ∈ l, b < 256) : (loaded l).mem.toList = l := by
  rw [loaded_mem]
  refine List.ext_getElem? fun i => ?_
  rw [List.getElem?_map]
  by_cases hi : i < 128
  · have hi' : i < l.length := by omega
    rw [List.getElem?_range hi, List.getElem?_eq_getElem hi']
    show some (l.getD i 0 % 256) = some l[i]
    rw [List.getD_eq_getElem?_getD, List.getElem?_eq_getElem hi']
    show some (l[i] % 256) = some l[i]
    rw [Nat.mod_eq_of_lt (hb _ (List.getElem_mem hi'))]
  · rw [List.getElem?_eq_none (by rw [List.length_range]; omega), List.getElem?_eq_none (by omega)]
    rfl

/-! ### the takes of the specification -/
abbrev tkS (s : Cs05.St) (k : Nat) : Cs05.Take := s.takes.getD k Cs05.none_
def Down (s : Cs05.St) : Prop := ∀ k, k ≠ 0 → (tkS s k).parent < k
theorem all_any {s : Cs05.St} (d : Down s) : ∀ {n k : Nat}, k < n → Cs05.allFrom s n k = Cs05.all s k := by
  intro n
  induction n using Nat.strongRecOn with
  | _ n ih =>
    intro k h
    cases n with
    | zero => omega
    | succ n =>
      show (if k = 0 then [] else (Cs05.allFrom s n (tkS s k).parent).take (tkS s k).at_) ++ (tkS s k).pads.zip (tkS s k).marks = (if k = 0 then [] else (Cs05.allFrom s k (tkS s k).parent).take (tkS s k).at_) ++ (tkS s k).pads.zip (tkS s k).marks
      by_cases hk : k = 0
      · rw [if_pos hk, if_pos hk]
      · rw [if_neg hk, if_neg hk]
        have hp := d k hk
        by_cases e : n = k
        · rw [e]
        · rw [ih n (by omega) (by omega), ih k (by omega) hp]
theorem all_eq {s : Cs05.St} (d : Down s) (k : Nat) : Cs05.all s k = (if k = 0 then [] else (Cs05.all s (tkS s k).parent).take (tkS s k).at_) ++ (tkS s k).pads.zip (tkS s k).marks := by
  show (if k = 0 then [] else (Cs05.allFrom s k (tkS s k).parent).take (tkS s k).at_) ++ (tkS s k).pads.zip (tkS s k).marks = _
  by_cases hk : k = 0
  · rw [if_pos hk, if_pos hk]
  · rw [if_neg hk, if_neg hk, all_any d (d k hk)]
end Tk
-- the part TkRel
set_option maxHeartbeats 2000000
namespace Tk
open CsBase

/-! ### the mirror's state and the specification's -/
structure RelT (s : Cs05.St) (h : Hs) : Prop where
  lo : h.lo = (List.range 128).map fun i => s.program.getD i 0
  len : h.ts.length = s.takes.length
  down : Down s
  at_ : ∀ k, k ≠ 0 → (tkS s k).at_ ≤ Cs05.long s (tkS s k).parent
  own : ∀ k, (tkS s k).pads.length = (tkS s k).marks.length
  pads : ∀ k, k < s.takes.length → (h.tk k).pads = (Cs05.all s k).map Prod.fst
  marks : ∀ k, k < s.takes.length → (h.tk k).marks = (Cs05.all s k).map Prod.snd
  par : ∀ k, k < s.takes.length → (h.tk k).par = if k = 0 then -1 else ((tkS s k).parent : Int)
  ahd : ∀ k, k < s.takes.length → (h.tk k).ahd = (tkS s k).at_
  here : h.here = s.cur
  pl : h.pl = s.head
structure Rel (s : Cs05.St) (h : Hs) : Prop extends RelT s h where
  m : h.m = Cs05.stateAt s s.cur s.head

theorem RelT.loaded {s : Cs05.St} {h : Hs} (r : RelT s h) : loaded h.lo = loaded s.program := by
  refine loaded_eq fun i hi => ?_
  rw [r.lo, List.getD_eq_getElem?_getD, List.getElem?_map, List.getElem?_range hi]
  rfl
theorem RelT.long {s : Cs05.St} {h : Hs} (r : RelT s h) {k : Nat} (hk : k < s.takes.length) : Cs05.long s k = (h.tk k).pads.length := by
  rw [r.pads k hk, List.length_map]
  rfl
theorem RelT.padsS {s : Cs05.St} {h : Hs} (r : RelT s h) {k : Nat} (hk : k < s.takes.length) : Cs05.pads s k = (h.tk k).pads := (r.pads k hk).symm
theorem RelT.state {s : Cs05.St} {h : Hs} (r : RelT s h) {k : Nat} (hk : k < s.takes.length) (t : Nat) : Cs05.stateAt s k t = ahead h (h.tk k) t := by
  show frames (CsBase.loaded s.program) ((Cs05.pads s k).take t) = frames (CsBase.loaded h.lo) ((h.tk k).pads.take t)
  rw [r.padsS hk, r.loaded]
theorem cur_lt {s : Cs05.St} {h : Hs} (r : RelT s h) (g : Good h) : s.cur < s.takes.length := by
  rw [← r.here, ← r.len]; exact g.here
theorem take_take_le {α : Type} (l r : List α) {n : Nat} (h : n ≤ l.length) : (l ++ r).take n = l.take n := List.take_append_of_le_length h

/-! ### what has no program in it: takes change at the end alone -/
/-- one more frame at the take's end -/
def grown (s : Cs05.St) (v k : Nat) : Cs05.St :=
  { s with takes := s.takes.set s.cur { (tkS s s.cur) with pads := (tkS s s.cur).pads ++ [v], marks := (tkS s s.cur).marks ++ [k] }, head := s.head + 1 }
def split (s : Cs05.St) (v k : Nat) : Cs05.St :=
  { s with takes := s.takes ++ [⟨s.cur, s.head, [v], [k]⟩], cur := s.takes.length, head := s.head + 1 }
theorem grown_tk {s : Cs05.St} {v k : Nat} (h : s.cur < s.takes.length) (j : Nat) : tkS (grown s v k) j = if j = s.cur then { (tkS s s.cur) with pads := (tkS s s.cur).pads ++ [v], marks := (tkS s s.cur).marks ++ [k] } else tkS s j := by
  show (s.takes.set s.cur _).getD j Cs05.none_ = _
  rw [List.getD_eq_getElem?_getD, List.getElem?_set]
  by_cases e : j = s.cur
  · rw [if_pos e, if_pos e.symm, if_pos h]
    rfl
  · rw [if_neg e, if_neg (fun z => e z.symm), ← List.getD_eq_getElem?_getD]
theorem grown_same {s : Cs05.St} {v k : Nat} (h : s.cur < s.takes.length) (j : Nat) : (tkS (grown s v k) j).parent = (tkS s j).parent ∧ (tkS (grown s v k) j).at_ = (tkS s j).at_ := by
  rw [grown_tk h]
  by_cases e : j = s.cur
  · rw [if_pos e, e]; exact ⟨rfl, rfl⟩
  · rw [if_neg e]; exact ⟨rfl, rfl⟩
theorem split_tk {s : Cs05.St} {v k : Nat} (j : Nat) : tkS (split s v k) j = if j = s.takes.length then ⟨s.cur, s.head, [v], [k]⟩ else tkS s j := by
  show (s.takes ++ [_]).getD j Cs05.none_ = _
  rw [List.getD_eq_getElem?_getD]
  by_cases e : j = s.takes.length
  · rw [if_pos e, e, List.getElem?_append_right (Nat.le_refl _), Nat.sub_self]
    rfl
  · rw [if_neg e]
    by_cases lt : j < s.takes.length
    · rw [List.getElem?_append_left lt, ← List.getD_eq_getElem?_getD]
    · rw [List.getElem?_eq_none (by rw [List.length_append, List.length_singleton]; omega)]
      show Cs05.none_ = s.takes.getD j Cs05.none_
      rw [List.getD_eq_getElem?_getD, List.getElem?_eq_none (by omega)]
      rfl
theorem down_grown {s : Cs05.St} {v k : Nat} (d : Down s) (h : s.cur < s.takes.length) : Down (grown s v k) := fun j hj => by
  rw [(grown_same h j).1]; exact d j hj
theorem down_split {s : Cs05.St} {v k : Nat} (d : Down s) (h : s.cur < s.takes.length) : Down (split s v k) := fun j hj => by
  rw [split_tk]
  by_cases e : j = s.takes.length
  · rw [if_pos e, e]; exact h
  · rw [if_neg e]; exact d j hj
theorem all_grown {s : Cs05.St} {v k : Nat} (d : Down s) (h : s.cur < s.takes.length) (ha : ∀ j, j ≠ 0 → (tkS s j).at_ ≤ Cs05.long s (tkS s j).parent) (ho : ∀ j, (tkS s j).pads.length = (tkS s j).marks.length) :
    ∀ j, Cs05.all (grown s v k) j = if j = s.cur then Cs05.all s j ++ [(v, k)] else Cs05.all s j := by
  intro j
  induction j using Nat.strongRecOn with
  | _ j ih =>
    have pre : (if j = 0 then [] else (Cs05.all (grown s v k) (tkS (grown s v k) j).parent).take (tkS (grown s v k) j).at_) = (if j = 0 then [] else (Cs05.all s (tkS s j).parent).take (tkS s j).at_) := by
      by_cases hj : j = 0
      · rw [if_pos hj, if_pos hj]
      · rw [if_neg hj, if_neg hj, (grown_same h j).1, (grown_same h j).2, ih _ (d j hj)]
        by_cases e : (tkS s j).parent = s.cur
        · rw [if_pos e]
          exact take_take_le _ _ (ha j hj)
        · rw [if_neg e]
    rw [all_eq (down_grown d h) j, pre, grown_tk h]
    by_cases e : j = s.cur
    · rw [if_pos e, if_pos e, e, all_eq d s.cur, List.append_assoc]
      congr 1
      show ((tkS s s.cur).pads ++ [v]).zip ((tkS s s.cur).marks ++ [k]) = _
      rw [List.zip_append (ho _)]
      rfl
    · rw [if_neg e, if_neg e, ← all_eq d j]
theorem all_split {s : Cs05.St} {v k : Nat} (d : Down s) (h : s.cur < s.takes.length) :
    ∀ j, j ≤ s.takes.length → Cs05.all (split s v k) j = if j = s.takes.length then (Cs05.all s s.cur).take s.head ++ [(v, k)] else Cs05.all s j := by
  intro j
  induction j using Nat.strongRecOn with
  | _ j ih =>
    intro hl
    rw [all_eq (down_split d h), split_tk]
    by_cases e : j = s.takes.length
    · rw [if_pos e, if_pos e]
      have nz : j ≠ 0 := by omega
      rw [if_neg nz, ih _ (by show s.cur < j; omega) (by show s.cur ≤ _; omega), if_neg (by show ¬ s.cur = s.takes.length; omega)]
      rfl
    · rw [if_neg e, if_neg e, all_eq d j]
      by_cases hj : j = 0
      · rw [if_pos hj, if_pos hj]
      · rw [if_neg hj, if_neg hj]
        have hp := d j hj
        rw [ih _ hp (by omega), if_neg (by omega)]

/-! ### a pad is played -/
theorem mem_getD {l : List Tak} {k : Nat} (h : k < l.length) : l.getD k tnone ∈ l := by
  rw [List.getD_eq_getElem?_getD, List.getElem?_eq_getElem h]
  exact List.getElem_mem h
theorem Good.tk {h : Hs} (g : Good h) {k : Nat} (hk : k < h.ts.length) : GoodT (h.tk k) := g.tks _ (mem_getD hk)
theorem Good.cur {h : Hs} (g : Good h) : GoodT h.cur := g.tk g.here
theorem GoodT.none : GoodT tnone := ⟨by decide, rfl, by intro v hv; cases hv⟩
theorem Hs.tk_set {h : Hs} {t : Tak} (hh : h.here < h.ts.length) (j : Nat) : (h.ts.set h.here t).getD j tnone = if j = h.here then t else h.tk j := by
  rw [List.getD_eq_getElem?_getD, List.getElem?_set]
  by_cases e : j = h.here
  · rw [if_pos e, if_pos e.symm, if_pos hh]
    rfl
  · rw [if_neg e, if_neg (fun z => e z.symm), ← List.getD_eq_getElem?_getD]
    rfl
theorem Hs.tk_app {h : Hs} {t : Tak} (j : Nat) : (h.ts ++ [t]).getD j tnone = if j = h.ts.length then t else h.tk j := by
  rw [List.getD_eq_getElem?_getD]
  by_cases e : j = h.ts.length
  · rw [if_pos e, e, List.getElem?_append_right (Nat.le_refl _), Nat.sub_self]
    rfl
  · rw [if_neg e]
    by_cases lt : j < h.ts.length
    · rw [List.getElem?_append_left lt, ← List.getD_eq_getElem?_getD]
      rfl
    · rw [List.getElem?_eq_none (by rw [List.length_append, List.length_singleton]; omega)]
      show tnone = h.ts.getD j tnone
      rw [List.getD_eq_getElem?_getD, List.getElem?_eq_none (by omega)]
      rfl
theorem GoodT.more {t : Tak} (g : GoodT t) {v k : Nat} (hl : t.pads.length < 60) (hv : v < 256) : GoodT (t.more v k) := by
  refine ⟨?_, ?_, ?_⟩
  · show (t.pads ++ [v]).length ≤ 60
    rw [List.length_append, List.length_singleton]; omega
  · show (t.marks ++ [k]).length = (t.pads ++ [v]).length
    rw [List.length_append, List.length_append, g.marks]; rfl
  · show ∀ b ∈ t.pads ++ [v], b < 256
    intro b hb
    rcases List.mem_append.mp hb with z | z
    · exact g.bytes b z
    · rw [List.mem_singleton.mp z]; exact hv
theorem Good.branch {h : Hs} (g : Good h) : GoodT h.branch := by
  have q := g.cur
  refine ⟨?_, ?_, ?_⟩
  · show (h.cur.pads.take h.pl).length ≤ 60
    rw [List.length_take]; have := q.len; omega
  · show (h.cur.marks.take h.pl).length = (h.cur.pads.take h.pl).length
    rw [List.length_take, List.length_take, q.marks]
  · intro v hv
    exact q.bytes v (List.mem_of_mem_take hv)
theorem branch_len {h : Hs} (g : Good h) : h.branch.pads.length = h.pl := by
  show (h.cur.pads.take h.pl).length = h.pl
  rw [List.length_take]; have := g.pl; omega
def canPlay (h : Hs) : Prop := h.pl < 60 ∧ (h.pl = h.cur.pads.length ∨ h.ts.length < 12)
theorem playPad_branch {h : Hs} {v : Nat} (c : h.pl < h.cur.pads.length) : playPad h v = { h with ts := h.ts ++ [h.branch.more v (mark (frame h.m v))], here := h.ts.length, pl := h.pl + 1, m := frame h.m v } := if_pos c
theorem playPad_more {h : Hs} {v : Nat} (c : ¬ h.pl < h.cur.pads.length) : playPad h v = { h with ts := h.ts.set h.here (h.cur.more v (mark (frame h.m v))), pl := h.pl + 1, m := frame h.m v } := if_neg c
theorem Good.play {h : Hs} (g : Good h) {v : Nat} (hv : v < 256) (c : canPlay h) : Good (playPad h v) ∧ (playPad h v).pl = (playPad h v).cur.pads.length := by
  by_cases cc : h.pl < h.cur.pads.length
  · rw [playPad_branch cc]
    have lt : h.ts.length < 12 := by rcases c.2 with z | z <;> omega
    have gt : GoodT (h.branch.more v (mark (frame h.m v))) := g.branch.more (by rw [branch_len g]; exact c.1) hv
    have ec : ((h.ts ++ [h.branch.more v (mark (frame h.m v))]).getD h.ts.length tnone) = h.branch.more v (mark (frame h.m v)) := by rw [Hs.tk_app, if_pos rfl]
    have el : ((h.ts ++ [h.branch.more v (mark (frame h.m v))]).getD h.ts.length tnone).pads.length = h.pl + 1 := by
      rw [ec]
      show (h.branch.pads ++ [v]).length = _
      rw [List.length_append, branch_len g]; rfl
    refine ⟨⟨g.lo, g.bytes, ?_, ?_, ?_, ?_, g.m.frame v⟩, el.symm⟩
    · show (h.ts ++ [_]).length ≤ 12
      rw [List.length_append, List.length_singleton]; omega
    · show h.ts.length < (h.ts ++ [_]).length
      rw [List.length_append, List.length_singleton]; omega
    · exact Nat.le_of_eq el.symm
    · intro t ht
      rcases List.mem_append.mp ht with z | z
      · exact g.tks t z
      · rw [List.mem_singleton.mp z]; exact gt
  · rw [playPad_more cc]
    have epl : h.pl = h.cur.pads.length := by have := g.pl; omega
    have gt : GoodT (h.cur.more v (mark (frame h.m v))) := g.cur.more (by have := c.1; omega) hv
    have ec : ((h.ts.set h.here (h.cur.more v (mark (frame h.m v)))).getD h.here tnone) = h.cur.more v (mark (frame h.m v)) := by rw [Hs.tk_set g.here, if_pos rfl]
    have el : ((h.ts.set h.here (h.cur.more v (mark (frame h.m v)))).getD h.here tnone).pads.length = h.pl + 1 := by
      rw [ec]
      show (h.cur.pads ++ [v]).length = _
      rw [List.length_append, epl]; rfl
    refine ⟨⟨g.lo, g.bytes, ?_, ?_, ?_, ?_, g.m.frame v⟩, el.symm⟩
    · show (h.ts.set _ _).length ≤ 12
      rw [List.length_set]; exact g.most
    · show h.here < (h.ts.set _ _).length
      rw [List.length_set]; exact g.here
    · exact Nat.le_of_eq el.symm
    · intro t ht
      rcases List.mem_or_eq_of_mem_set ht with z | z
      · exact g.tks t z
      · rw [z]; exact gt
theorem take_succ_end {α : Type} {l : List α} {n : Nat} {x : α} (h : l.length = n) : (l ++ [x]).take (n + 1) = l ++ [x] := by
  rw [List.take_of_length_le (by rw [List.length_append, h]; exact Nat.le_refl _)]
theorem RelT.branch {s : Cs05.St} {h : Hs} (rT : RelT s h) (g : Good h) (v k0 : Nat) (M : Mach) : RelT (split s v k0) { h with ts := h.ts ++ [h.branch.more v k0], here := h.ts.length, pl := h.pl + 1, m := M } := by
  have hc := cur_lt rT g
  have el : Cs05.long s s.cur = h.cur.pads.length := by rw [rT.long hc, ← rT.here]; rfl
  have hc' : h.here = s.cur := rT.here
  have ea := all_split (s := s) (v := v) (k := k0) rT.down hc
  have lenS : (split s v k0).takes.length = s.takes.length + 1 := by
    show (s.takes ++ [_]).length = _
    rw [List.length_append]; rfl
  have ept : (h.cur.pads.take h.pl) = ((Cs05.all s s.cur).take s.head).map Prod.fst := by
    rw [List.map_take, ← rT.pads _ hc, rT.pl, ← hc']; rfl
  have emt : (h.cur.marks.take h.pl) = ((Cs05.all s s.cur).take s.head).map Prod.snd := by
    rw [List.map_take, ← rT.marks _ hc, rT.pl, ← hc']; rfl
  refine ⟨rT.lo, ?_, down_split rT.down hc, ?_, ?_, ?_, ?_, ?_, ?_, rT.len, ?_⟩
  · show (h.ts ++ [_]).length = _
    rw [lenS, List.length_append, rT.len]; rfl
  · intro k hk
    rw [split_tk]
    by_cases e : k = s.takes.length
    · rw [if_pos e]
      show s.head ≤ (Cs05.all (split s v _) s.cur).length
      rw [ea _ (Nat.le_of_lt hc), if_neg (Nat.ne_of_lt hc)]
      show s.head ≤ Cs05.long s s.cur
      rw [el, ← rT.pl]; exact g.pl
    · rw [if_neg e]
      show _ ≤ (Cs05.all (split s v _) (tkS s k).parent).length
      by_cases lk : k < s.takes.length
      · have hp := rT.down k hk
        rw [ea _ (by omega), if_neg (by omega)]
        exact rT.at_ k hk
      · have z : tkS s k = Cs05.none_ := by
          show s.takes.getD k Cs05.none_ = _
          rw [List.getD_eq_getElem?_getD, List.getElem?_eq_none (by omega)]; rfl
        rw [z]; exact Nat.zero_le _
  · intro k
    rw [split_tk]
    by_cases e : k = s.takes.length
    · rw [if_pos e]; rfl
    · rw [if_neg e]; exact rT.own k
  · intro k hk
    rw [lenS] at hk
    show ((h.ts ++ [_]).getD k tnone).pads = _
    rw [Hs.tk_app, ea k (by omega), rT.len]
    by_cases e : k = s.takes.length
    · rw [if_pos e, if_pos e, List.map_append, ← ept]; rfl
    · rw [if_neg e, if_neg e]; exact rT.pads k (by omega)
  · intro k hk
    rw [lenS] at hk
    show ((h.ts ++ [_]).getD k tnone).marks = _
    rw [Hs.tk_app, ea k (by omega), rT.len]
    by_cases e : k = s.takes.length
    · rw [if_pos e, if_pos e, List.map_append, ← emt]; rfl
    · rw [if_neg e, if_neg e]; exact rT.marks k (by omega)
  · intro k hk
    rw [lenS] at hk
    show ((h.ts ++ [_]).getD k tnone).par = _
    rw [Hs.tk_app, split_tk, rT.len]
    by_cases e : k = s.takes.length
    · rw [if_pos e, if_pos e, if_neg (by omega)]
      show (h.here : Int) = (s.cur : Int)
      rw [hc']
    · rw [if_neg e, if_neg e]; exact rT.par k (by omega)
  · intro k hk
    rw [lenS] at hk
    show ((h.ts ++ [_]).getD k tnone).ahd = _
    rw [Hs.tk_app, split_tk, rT.len]
    by_cases e : k = s.takes.length
    · rw [if_pos e, if_pos e]; exact rT.pl
    · rw [if_neg e, if_neg e]; exact rT.ahd k (by omega)
  · show h.pl + 1 = s.head + 1
    rw [rT.pl]
theorem RelT.more {s : Cs05.St} {h : Hs} (rT : RelT s h) (g : Good h) (v k0 : Nat) (M : Mach) : RelT (grown s v k0) { h with ts := h.ts.set h.here (h.cur.more v k0), pl := h.pl + 1, m := M } := by
  have hc := cur_lt rT g
  have hc' : h.here = s.cur := rT.here
  have ea := all_grown (s := s) (v := v) (k := k0) rT.down hc rT.at_ rT.own
  have lenS : (grown s v k0).takes.length = s.takes.length := List.length_set
  refine ⟨rT.lo, ?_, down_grown rT.down hc, ?_, ?_, ?_, ?_, ?_, ?_, rT.here, ?_⟩
  · show (h.ts.set _ _).length = _
    rw [lenS, List.length_set, rT.len]
  · intro k hk
    rw [(grown_same hc k).1, (grown_same hc k).2]
    refine Nat.le_trans (rT.at_ k hk) ?_
    show (Cs05.all s (tkS s k).parent).length ≤ (Cs05.all (grown s v _) (tkS s k).parent).length
    rw [ea]
    split
    · rw [List.length_append]; exact Nat.le_add_right _ _
    · exact Nat.le_refl _
  · intro k
    rw [grown_tk hc]
    by_cases e : k = s.cur
    · rw [if_pos e]
      show ((tkS s s.cur).pads ++ [v]).length = ((tkS s s.cur).marks ++ [_]).length
      rw [List.length_append, List.length_append, rT.own]; rfl
    · rw [if_neg e]; exact rT.own k
  · intro k hk
    rw [lenS] at hk
    show ((h.ts.set _ _).getD k tnone).pads = _
    rw [Hs.tk_set g.here, ea, hc']
    by_cases e : k = s.cur
    · rw [if_pos e, if_pos e, List.map_append, e, ← rT.pads _ hc, ← hc']; rfl
    · rw [if_neg e, if_neg e]; exact rT.pads k hk
  · intro k hk
    rw [lenS] at hk
    show ((h.ts.set _ _).getD k tnone).marks = _
    rw [Hs.tk_set g.here, ea, hc']
    by_cases e : k = s.cur
    · rw [if_pos e, if_pos e, List.map_append, e, ← rT.marks _ hc, ← hc']; rfl
    · rw [if_neg e, if_neg e]; exact rT.marks k hk
  · intro k hk
    rw [lenS] at hk
    show ((h.ts.set _ _).getD k tnone).par = _
    rw [Hs.tk_set g.here, (grown_same hc k).1, hc', ← rT.par k hk]
    by_cases e : k = s.cur
    · rw [if_pos e, e, ← hc']; rfl
    · rw [if_neg e]
  · intro k hk
    rw [lenS] at hk
    show ((h.ts.set _ _).getD k tnone).ahd = _
    rw [Hs.tk_set g.here, (grown_same hc k).2, hc', ← rT.ahd k hk]
    by_cases e : k = s.cur
    · rw [if_pos e, e, ← hc']; rfl
    · rw [if_neg e]
  · show h.pl + 1 = s.head + 1
    rw [rT.pl]
theorem Rel.play {s : Cs05.St} {h : Hs} (r : Rel s h) (g : Good h) (v : Nat) (c : canPlay h) : ∃ s', Cs05.played s h.m v = some s' ∧ Rel s' (playPad h v) := by
  have rT := r.toRelT
  have hc := cur_lt rT g
  have el : Cs05.long s s.cur = h.cur.pads.length := by rw [rT.long hc, ← r.here]; rfl
  have hc' : h.here = s.cur := r.here
  have hne : ¬ Cs05.LONG ≤ s.head := by have := c.1; rw [r.pl] at this; show ¬ 60 ≤ s.head; omega
  have em : h.m = ahead h h.cur h.pl := by rw [r.m, rT.state hc, ← r.here, ← r.pl]; rfl
  by_cases cc : h.pl < h.cur.pads.length
  · have lt : h.ts.length < 12 := by rcases c.2 with z | z <;> omega
    have h1 : ¬ s.head = Cs05.long s s.cur := by rw [el, ← r.pl]; omega
    have h2 : ¬ Cs05.TAKES ≤ s.takes.length := by rw [← r.len]; show ¬ 12 ≤ h.ts.length; omega
    refine ⟨split s v (mark (frame h.m v)), ?_, ?_⟩
    · unfold Cs05.played
      rw [if_neg hne, if_neg h1, if_neg h2]
      rfl
    · rw [playPad_branch cc]
      have RT := rT.branch g v (mark (frame h.m v)) (frame h.m v)
      refine ⟨RT, ?_⟩
      generalize mark (frame h.m v) = k0 at RT ⊢
      show frame h.m v = _
      have hcs : (split s v k0).cur < (split s v k0).takes.length := by
        show s.takes.length < (s.takes ++ [_]).length
        rw [List.length_append]; exact Nat.lt_succ_self _
      rw [RT.state hcs]
      show frame h.m v = frames (loaded h.lo) ((((h.ts ++ [h.branch.more v k0]).getD s.takes.length tnone).pads).take (s.head + 1))
      rw [Hs.tk_app, if_pos rT.len.symm]
      show frame h.m v = frames (loaded h.lo) ((h.cur.pads.take h.pl ++ [v]).take (s.head + 1))
      rw [← r.pl, take_succ_end (l := h.cur.pads.take h.pl) (branch_len g), frames_append]
      show frame h.m v = frame (ahead h h.cur h.pl) v
      rw [← em]
  · have epl : h.pl = h.cur.pads.length := by have := g.pl; omega
    have h1 : s.head = Cs05.long s s.cur := by rw [el, ← r.pl]; exact epl
    refine ⟨grown s v (mark (frame h.m v)), ?_, ?_⟩
    · unfold Cs05.played
      rw [if_neg hne, if_pos h1]
      rfl
    · rw [playPad_more cc]
      have RT := rT.more g v (mark (frame h.m v)) (frame h.m v)
      refine ⟨RT, ?_⟩
      generalize mark (frame h.m v) = k0 at RT ⊢
      show frame h.m v = _
      have hcs : (grown s v k0).cur < (grown s v k0).takes.length := by
        show s.cur < (s.takes.set _ _).length
        rw [List.length_set]; exact hc
      rw [RT.state hcs]
      show frame h.m v = frames (loaded h.lo) ((((h.ts.set h.here (h.cur.more v k0)).getD s.cur tnone).pads).take (s.head + 1))
      rw [Hs.tk_set g.here, if_pos hc'.symm]
      show frame h.m v = frames (loaded h.lo) ((h.cur.pads ++ [v]).take (s.head + 1))
      rw [← r.pl, take_succ_end epl.symm, frames_append]
      have e3 : h.m = frames (loaded h.lo) h.cur.pads := by
        rw [em]
        show frames (loaded h.lo) (h.cur.pads.take h.pl) = _
        rw [epl, List.take_length]
      rw [← e3]
      rfl
end Tk
-- the part TkCall
set_option maxHeartbeats 1000000
namespace Tk
open CsBase

theorem cur_len_of {s : Cs05.St} {h : Hs} (r : Rel s h) (g : Good h) : Cs05.long s s.cur = h.cur.pads.length := by
  rw [r.toRelT.long (cur_lt r.toRelT g), ← r.here]; rfl
theorem played_none {s : Cs05.St} {h : Hs} (r : Rel s h) (g : Good h) (v : Nat) (c : ¬ canPlay h) : Cs05.played s h.m v = none := by
  unfold Cs05.played
  by_cases c1 : Cs05.LONG ≤ s.head
  · rw [if_pos c1]
  · rw [if_neg c1]
    have p1 : h.pl < 60 := by rw [r.pl]; have : ¬ 60 ≤ s.head := c1; omega
    have p2 : ¬ (h.pl = h.cur.pads.length ∨ h.ts.length < 12) := fun z => c ⟨p1, z⟩
    rw [if_neg (by rw [cur_len_of r g, ← r.pl]; exact fun z => p2 (.inl z)), if_pos]
    show 12 ≤ s.takes.length
    rw [← r.len]
    exact Nat.le_of_not_lt fun z => p2 (.inr z)
theorem playPad_m {h : Hs} {v : Nat} : (playPad h v).m = frame h.m v := by
  unfold playPad
  split <;> rfl
theorem playPad_pl {h : Hs} {v : Nat} : (playPad h v).pl = h.pl + 1 := by
  unfold playPad
  split <;> rfl
theorem room_iff {h : Hs} {k p n : Nat} : room h k p n = true ↔ (n = 0 ∨ (p + n ≤ 60 ∧ (p = (h.tk k).pads.length ∨ h.ts.length < 12))) := by
  unfold room
  simp only [Bool.or_eq_true, Bool.and_eq_true, decide_eq_true_eq]
theorem playAll_cons (h : Hs) (v : Nat) (l : List Nat) : playAll h (v :: l) = playAll (playPad h v) l := rfl
theorem room_next {h : Hs} {v n : Nat} (g : Good h) (hv : v < 256) (c : canPlay h) : room (playPad h v) (playPad h v).here (playPad h v).pl n = true ↔ n = 0 ∨ h.pl + 1 + n ≤ 60 := by
  rw [room_iff, playPad_pl]
  have q := (g.play hv c).2
  rw [playPad_pl] at q
  constructor
  · rintro (z | z)
    · exact .inl z
    · exact .inr z.1
  · rintro (z | z)
    · exact .inl z
    · exact .inr ⟨z, .inl q⟩
theorem room_first {h : Hs} {n : Nat} : room h h.here h.pl (n + 1) = true ↔ canPlay h ∧ h.pl + 1 + n ≤ 60 := by
  rw [room_iff]
  constructor
  · rintro (z | ⟨z1, z2⟩)
    · omega
    · exact ⟨⟨by omega, z2⟩, by omega⟩
  · rintro ⟨⟨_, z2⟩, z3⟩
    exact .inr ⟨by omega, z2⟩
/-- pads played one behind another: the mirror's and the specification's -/
theorem Rel.playAll : ∀ (l : List Nat) {s : Cs05.St} {h : Hs}, Rel s h → Good h → (∀ v ∈ l, v < 256) →
    (room h h.here h.pl l.length = true → ∃ s', Cs05.playAll s h.m l = some s' ∧ Rel s' (playAll h l) ∧ Good (playAll h l)) ∧ (room h h.here h.pl l.length = false → Cs05.playAll s h.m l = none)
  | [], s, h, r, g, _ => ⟨fun _ => ⟨s, rfl, r, g⟩, fun z => by
      have : room h h.here h.pl 0 = true := room_iff.mpr (.inl rfl)
      rw [show ([] : List Nat).length = 0 from rfl, this] at z; cases z⟩
  | v :: l, s, h, r, g, hb => by
    have hv := hb v List.mem_cons_self
    have hb' : ∀ w ∈ l, w < 256 := fun w hw => hb w (List.mem_cons_of_mem _ hw)
    have step : ∀ s1, Cs05.played s h.m v = some s1 → Cs05.playAll s h.m (v :: l) = Cs05.playAll s1 (frame h.m v) l := fun s1 e => by
      show (match Cs05.played s h.m v with | none => none | some t => Cs05.playAll t (frame h.m v) l) = _
      rw [e]
    constructor
    · intro q
      obtain ⟨c, q2⟩ := room_first.mp q
      obtain ⟨s1, e1, r1⟩ := r.play g v c
      have g1 := (g.play hv c).1
      obtain ⟨s2, e2, r2, g2⟩ := (Rel.playAll l r1 g1 hb').1 ((room_next g hv c).mpr (.inr q2))
      refine ⟨s2, ?_, r2, g2⟩
      rw [step s1 e1, ← playPad_m]
      exact e2
    · intro q
      by_cases c : canPlay h
      · obtain ⟨s1, e1, r1⟩ := r.play g v c
        have g1 := (g.play hv c).1
        rw [step s1 e1, ← playPad_m]
        refine (Rel.playAll l r1 g1 hb').2 ?_
        cases e : room (playPad h v) (playPad h v).here (playPad h v).pl l.length with
        | false => rfl
        | true =>
          exfalso
          have q' : room h h.here h.pl (l.length + 1) = false := q
          have nr : ¬ (canPlay h ∧ h.pl + 1 + l.length ≤ 60) := fun z => by rw [room_first.mpr z] at q'; cases q'
          rcases (room_next g hv c).mp e with z | z
          · exact nr ⟨c, by rw [z]; have := c.1; omega⟩
          · exact nr ⟨c, z⟩
      · show (match Cs05.played s h.m v with | none => none | some t => Cs05.playAll t (frame h.m v) l) = none
        rw [played_none r g v c]
theorem where_eq {s : Cs05.St} {h : Hs} (r : Rel s h) : Cs05.where_ s = wh h := by
  show [(s.cur : Int), (s.head : Int), (mark (Cs05.stateAt s s.cur s.head) : Int)] = [(h.here : Int), (h.pl : Int), (mark h.m : Int)]
  rw [← r.m, r.here, r.pl]
theorem isTk_eq {s : Cs05.St} {h : Hs} (r : RelT s h) (k : Int) : Cs05.isTake s k = isTk h k := by
  show (decide (0 ≤ k) && decide (k < (s.takes.length : Int))) = (decide (0 ≤ k) && decide (k < (h.ts.length : Int)))
  rw [r.len]
theorem isTk_lt {h : Hs} {k : Int} (e : isTk h k = true) : 0 ≤ k ∧ k.toNat < h.ts.length := by
  unfold isTk at e
  rw [Bool.and_eq_true, decide_eq_true_eq, decide_eq_true_eq] at e
  exact ⟨e.1, by omega⟩
/-- one call told: the mirror's answer is the specification's, and what is always so stays so -/
def Agree (x : Cs05.St × List Int) (y : Hs × List Int) : Prop := x.2 = y.2 ∧ Rel x.1 y.1 ∧ Good y.1
theorem agree_err {s : Cs05.St} {h : Hs} (r : Rel s h) (g : Good h) (n : Int) : Agree (s, [n]) (res h (.error n)) := ⟨rfl, r, g⟩
theorem agree_ok {s' : Cs05.St} {h h' : Hs} {a b : List Int} (r : Rel s' h') (g : Good h') (e : a = b) : Agree (s', a) (res h (.ok (h', b))) := ⟨e, r, g⟩
theorem agree_done {s' : Cs05.St} {h h' : Hs} (r : Rel s' h') (g : Good h') : Agree (s', Cs05.where_ s') (res h (done h')) := agree_ok r g (where_eq r)
theorem all_other (s : Cs05.St) (p : List Nat) (c d : Nat) : ∀ n k, Cs05.allFrom { s with program := p, cur := c, head := d } n k = Cs05.allFrom s n k
  | 0, _ => rfl
  | n + 1, k => by
    show (if k = 0 then [] else (Cs05.allFrom { s with program := p, cur := c, head := d } n (tkS s k).parent).take (tkS s k).at_) ++ (tkS s k).pads.zip (tkS s k).marks = (if k = 0 then [] else (Cs05.allFrom s n (tkS s k).parent).take (tkS s k).at_) ++ (tkS s k).pads.zip (tkS s k).marks
    rw [all_other s p c d n]
theorem all_oth (s : Cs05.St) (p : List Nat) (c d k : Nat) : Cs05.all { s with program := p, cur := c, head := d } k = Cs05.all s k := all_other s p c d _ k
theorem RelT.other {s : Cs05.St} {h : Hs} (r : RelT s h) (p l : List Nat) (c d : Nat) (m : Mach) (hl : l = (List.range 128).map fun i => p.getD i 0) : RelT { s with program := p, cur := c, head := d } { h with lo := l, here := c, pl := d, m := m } := by
  refine ⟨hl, r.len, r.down, fun k hk => ?_, r.own, fun k hk => ?_, fun k hk => ?_, r.par, r.ahd, rfl, rfl⟩
  · show _ ≤ (Cs05.all _ (tkS s k).parent).length
    rw [all_oth]
    exact r.at_ k hk
  · rw [all_oth]; exact r.pads k hk
  · rw [all_oth]; exact r.marks k hk
theorem Rel.goTo {s : Cs05.St} {h : Hs} (r : Rel s h) (g : Good h) {k t : Nat} (hk : k < h.ts.length) (ht : t ≤ (h.tk k).pads.length) : Rel { s with cur := k, head := t } (goTo h k t) ∧ Good (goTo h k t) := by
  have hk' : k < s.takes.length := by rw [← r.len]; exact hk
  have RT : RelT { s with cur := k, head := t } (Tk.goTo h k t) := r.toRelT.other s.program h.lo k t _ r.lo
  refine ⟨⟨RT, ?_⟩, ⟨g.lo, g.bytes, g.most, hk, ht, g.tks, Wf.frames (Wf.loaded _)⟩⟩
  exact (RT.state (k := k) hk' t).symm
theorem bytes_toNat {l : List Int} (h : l.all Cs05.isByte = true) : ∀ v ∈ l.map Int.toNat, v < 256 := fun v hv => by
  obtain ⟨z, hz, rfl⟩ := List.mem_map.mp hv
  have := List.all_eq_true.mp h z hz
  unfold Cs05.isByte at this
  rw [Bool.and_eq_true, decide_eq_true_eq, decide_eq_true_eq] at this
  omega
theorem padded_len (l : List Nat) (h : l.length ≤ 128) : (padded l).length = 128 := by
  unfold padded; rw [List.length_append, List.length_replicate]; omega
theorem padded_get (l : List Nat) (i : Nat) : (padded l).getD i 0 = l.getD i 0 := by
  unfold padded
  rw [List.getD_eq_getElem?_getD, List.getD_eq_getElem?_getD]
  by_cases h : i < l.length
  · rw [List.getElem?_append_left h]
  · rw [List.getElem?_append_right (by omega), List.getElem?_eq_none (l := l) (by omega), List.getElem?_replicate]
    split <;> rfl
theorem padded_map (l : List Nat) (h : l.length ≤ 128) : padded l = (List.range 128).map fun i => l.getD i 0 := by
  refine List.ext_getElem? fun i => ?_
  rw [List.getElem?_map]
  by_cases hi : i < 128
  · rw [List.getElem?_range hi, List.getElem?_eq_getElem (by rw [padded_len l h]; exact hi)]
    show some _ = some (l.getD i 0)
    rw [← padded_get l i, List.getD_eq_getElem?_getD, List.getElem?_eq_getElem (by rw [padded_len l h]; exact hi)]
    rfl
  · rw [List.getElem?_eq_none (by rw [padded_len l h]; omega), List.getElem?_eq_none (by rw [List.length_range]; omega)]
    rfl
theorem padded_bytes {l : List Nat} (h : ∀ v ∈ l, v < 256) : ∀ v ∈ padded l, v < 256 := fun v hv => by
  rcases List.mem_append.mp hv with z | z
  · exact h v z
  · rw [(List.mem_replicate.mp z).2]; decide
theorem start_tk (l : List Nat) (k : Nat) : tkS { Cs05.start with program := l } k = ⟨0, 0, [], []⟩ := by
  show ([⟨0, 0, [], []⟩] : List Cs05.Take).getD k Cs05.none_ = _
  cases k with
  | zero => rfl
  | succ k => rfl
theorem start_down (l : List Nat) : Down { Cs05.start with program := l } := fun k hk => by
  rw [start_tk]; exact Nat.pos_of_ne_zero hk
theorem start_all (l : List Nat) : Cs05.all { Cs05.start with program := l } 0 = [] := by
  rw [all_eq (start_down l), if_pos rfl, start_tk]; rfl
theorem Rel.fresh (l : List Nat) (h : l.length ≤ 128) (hb : ∀ v ∈ l, v < 256) : Rel { Cs05.start with program := l } (fresh l) ∧ Good (fresh l) := by
  have z : ∀ k, k < ({ Cs05.start with program := l } : Cs05.St).takes.length → k = 0 := fun k hk => by
    have : k < 1 := hk
    omega
  have RT : RelT { Cs05.start with program := l } (Tk.fresh l) := by
    refine ⟨padded_map l h, rfl, start_down l, fun k hk => ?_, fun k => ?_, fun k hk => ?_, fun k hk => ?_, fun k hk => ?_, fun k hk => ?_, rfl, rfl⟩
    · rw [start_tk]; exact Nat.zero_le _
    · rw [start_tk]
    · rw [z k hk, start_all]; rfl
    · rw [z k hk, start_all]; rfl
    · rw [z k hk, if_pos rfl]; rfl
    · rw [z k hk, start_tk]; rfl
  refine ⟨⟨RT, ?_⟩, ⟨padded_len l h, padded_bytes hb, by show 1 ≤ 12; decide, Nat.zero_lt_one, Nat.le_refl _, fun t ht => ?_, Wf.loaded _⟩⟩
  · have q := RT.state (k := 0) Nat.zero_lt_one 0
    exact q.symm
  · rw [List.mem_singleton.mp ht]; exact GoodT.none
theorem agree_begin {s : Cs05.St} {h : Hs} (r : Rel s h) (g : Good h) (l : List Int) : Agree (Cs05.spec s (.begin_ l)) (res h (mBegin l)) := by
  show Agree (if 128 < l.length ∨ (l.all Cs05.isByte) = false then (s, [-1]) else ({ Cs05.start with program := l.map Int.toNat }, [0])) _
  unfold mBegin
  by_cases c : l.length ≤ 128 ∧ l.all Cs05.isByte = true
  · rw [if_pos c, if_neg (by rintro (z | z); omega; rw [c.2] at z; cases z)]
    obtain ⟨r', g'⟩ := Rel.fresh (l.map Int.toNat) (by rw [List.length_map]; exact c.1) (bytes_toNat c.2)
    exact agree_ok r' g' rfl
  · rw [if_neg c, if_pos]
    · exact agree_err r g _
    · by_cases c1 : 128 < l.length
      · exact .inl c1
      · right
        cases e : l.all Cs05.isByte with
        | false => rfl
        | true => exact absurd ⟨by omega, e⟩ c
theorem agree_all {s : Cs05.St} {h h0 : Hs} (r : Rel s h) (g : Good h) (l : List Nat) (hb : ∀ v ∈ l, v < 256) {s0 : Cs05.St} (r0 : Rel s0 h0) (g0 : Good h0) :
    Agree (match Cs05.playAll s h.m l with | none => (s0, [-5]) | some w => (w, Cs05.where_ w)) (res h0 (if room h h.here h.pl l.length = true then done (playAll h l) else .error (-5))) := by
  cases e : room h h.here h.pl l.length with
  | true =>
    obtain ⟨s', e', r', g'⟩ := (Rel.playAll l r g hb).1 e
    rw [e', if_pos rfl]
    exact agree_done r' g'
  | false =>
    rw [(Rel.playAll l r g hb).2 e, if_neg Bool.false_ne_true]
    exact agree_err r0 g0 _
theorem orToo_eq (s : Cs05.St) (o : Option Cs05.St) : Cs05.orToo s o = match o with | none => (s, [-5]) | some w => (w, Cs05.where_ w) := rfl
theorem agree_play {s : Cs05.St} {h : Hs} (r : Rel s h) (g : Good h) (l : List Int) : Agree (Cs05.spec s (.play l)) (res h (mPlay h l)) := by
  show Agree (if (l.all Cs05.isByte) = false then (s, [-1]) else Cs05.orToo s (Cs05.playAll s (Cs05.stateAt s s.cur s.head) (l.map Int.toNat))) _
  unfold mPlay
  cases e : l.all Cs05.isByte with
  | false => exact agree_err r g _
  | true =>
    rw [if_neg (by decide), if_pos rfl, orToo_eq, ← r.m]
    have := agree_all r g (l.map Int.toNat) (bytes_toNat e) r g
    rw [List.length_map] at this
    exact this
theorem agree_put {s : Cs05.St} {h : Hs} (r : Rel s h) (g : Good h) (k a b : Int) : Agree (Cs05.spec s (.put k a b)) (res h (mPut h k a b)) := by
  show Agree (if Cs05.isTake s k = false then (s, [-2]) else if a < 0 ∨ b < a ∨ (Cs05.long s k.toNat : Int) < b then (s, [-3]) else Cs05.orToo s (Cs05.playAll s (Cs05.stateAt s s.cur s.head) (((Cs05.pads s k.toNat).take b.toNat).drop a.toNat))) _
  unfold mPut
  rw [isTk_eq r.toRelT]
  cases e : isTk h k with
  | false => exact agree_err r g _
  | true =>
    have hk := (isTk_lt e).2
    have hk' : k.toNat < s.takes.length := by rw [← r.len]; exact hk
    rw [if_neg (by decide), if_pos rfl, r.toRelT.long hk', r.toRelT.padsS hk']
    by_cases c : 0 ≤ a ∧ a ≤ b ∧ b ≤ ((h.tk k.toNat).pads.length : Int)
    · rw [if_pos c, if_neg (by omega), orToo_eq, ← r.m]
      exact agree_all r g _ (fun v hv => (g.tk hk).bytes v (List.mem_of_mem_take (List.mem_of_mem_drop hv))) r g
    · rw [if_neg c, if_pos (by omega)]
      exact agree_err r g _
theorem isFr_lt {h : Hs} {t : Int} (e : isFr h t = true) : 0 ≤ t ∧ t.toNat < h.cur.pads.length := by
  unfold isFr at e
  rw [Bool.and_eq_true, decide_eq_true_eq, decide_eq_true_eq] at e
  exact ⟨e.1, by omega⟩
theorem isFr_not {h : Hs} {t : Int} (e : isFr h t = false) : t < 0 ∨ (h.cur.pads.length : Int) ≤ t := by
  by_cases c : t < 0
  · exact .inl c
  · right
    refine Int.not_lt.mp fun z => ?_
    unfold isFr at e
    rw [decide_eq_true (by omega : 0 ≤ t), decide_eq_true z] at e
    cases e
theorem agree_cut {s : Cs05.St} {h : Hs} (r : Rel s h) (g : Good h) (t : Int) : Agree (Cs05.spec s (.cut t)) (res h (mCut h t)) := by
  have hc := cur_lt r.toRelT g
  have ep : Cs05.pads s s.cur = h.cur.pads := by rw [r.toRelT.padsS hc, ← r.here]; rfl
  show Agree (if t < 0 ∨ (Cs05.long s s.cur : Int) ≤ t then (s, [-3]) else
    if (Cs05.pads s s.cur).drop (t.toNat + 1) = [] then ({ s with head := t.toNat }, Cs05.where_ { s with head := t.toNat }) else
    match Cs05.playAll { s with head := t.toNat } (Cs05.stateAt { s with head := t.toNat } s.cur t.toNat) ((Cs05.pads s s.cur).drop (t.toNat + 1)) with
    | none => (s, [-5])
    | some w => (w, Cs05.where_ w)) _
  unfold mCut
  rw [cur_len_of r g, ep]
  cases e : isFr h t with
  | false => rw [if_pos (isFr_not e)]; exact agree_err r g _
  | true =>
    have ht := isFr_lt e
    rw [if_neg (by omega), if_pos rfl]
    have hh : h.here = s.cur := r.here
    obtain ⟨r1, g1⟩ := r.goTo g (k := h.here) (t := t.toNat) g.here (by show t.toNat ≤ h.cur.pads.length; omega)
    have es : ({ s with cur := h.here, head := t.toNat } : Cs05.St) = { s with head := t.toNat } := by rw [hh]
    rw [es] at r1
    have em : (goTo h h.here t.toNat).m = Cs05.stateAt { s with head := t.toNat } s.cur t.toNat := r1.m
    have er : room h h.here t.toNat (h.cur.pads.drop (t.toNat + 1)).length = room (goTo h h.here t.toNat) (goTo h h.here t.toNat).here (goTo h h.here t.toNat).pl (h.cur.pads.drop (t.toNat + 1)).length := rfl
    rw [er]
    by_cases c : h.cur.pads.drop (t.toNat + 1) = []
    · rw [if_pos c, c, if_pos (room_iff.mpr (.inl (show ([] : List Nat).length = 0 from rfl)))]
      exact agree_done r1 g1
    · rw [if_neg c, ← em]
      exact agree_all r1 g1 _ (fun v hv => g.cur.bytes v (List.mem_of_mem_drop hv)) r g
theorem agree_on {s : Cs05.St} {h : Hs} (r : Rel s h) (g : Good h) (n : Int) : Agree (Cs05.spec s (.on n)) (res h (mOn h n)) := by
  show Agree (if n < 0 then (s, [-1]) else ({ s with head := min (s.head + n.toNat) (Cs05.long s s.cur) }, Cs05.where_ { s with head := min (s.head + n.toNat) (Cs05.long s s.cur) })) _
  unfold mOn
  by_cases c : 0 ≤ n
  · rw [if_pos c, if_neg (by omega)]
    have hc := cur_lt r.toRelT g
    have el : (h.cur.pads.drop h.pl).take n.toNat = (h.cur.pads.take (h.pl + n.toNat)).drop h.pl := by
      rw [List.drop_take]
      congr 1
      omega
    have epl : h.pl + ((h.cur.pads.drop h.pl).take n.toNat).length = min (s.head + n.toNat) (Cs05.long s s.cur) := by
      rw [cur_len_of r g, ← r.pl, List.length_take, List.length_drop]
      have := g.pl
      omega
    have RT : RelT { s with head := min (s.head + n.toNat) (Cs05.long s s.cur) } (playOn h n.toNat) := by
      have q := r.toRelT.other s.program h.lo s.cur (min (s.head + n.toNat) (Cs05.long s s.cur)) (frames h.m ((h.cur.pads.drop h.pl).take n.toNat)) r.lo
      rw [← epl] at q ⊢
      rw [← r.here] at q
      have es : ({ s with head := h.pl + ((h.cur.pads.drop h.pl).take n.toNat).length } : Cs05.St) = { s with program := s.program, cur := h.here, head := h.pl + ((h.cur.pads.drop h.pl).take n.toNat).length } := by rw [r.here]
      rw [es]
      exact q
    have hpl : (playOn h n.toNat).pl ≤ h.cur.pads.length := by
      show h.pl + _ ≤ _
      rw [List.length_take, List.length_drop]
      have := g.pl
      omega
    have G : Good (playOn h n.toNat) := ⟨g.lo, g.bytes, g.most, g.here, hpl, g.tks, Wf.frames g.m⟩
    refine agree_done ⟨RT, ?_⟩ G
    show frames h.m ((h.cur.pads.drop h.pl).take n.toNat) = Cs05.stateAt { s with head := min (s.head + n.toNat) (Cs05.long s s.cur) } s.cur (min (s.head + n.toNat) (Cs05.long s s.cur))
    rw [RT.state (k := s.cur) hc, ← epl]
    have em : h.m = frames (loaded h.lo) (h.cur.pads.take h.pl) := by
      rw [r.m, r.toRelT.state hc, ← r.here, ← r.pl]; rfl
    rw [em, ← frames_append]
    show frames (loaded h.lo) (h.cur.pads.take h.pl ++ (h.cur.pads.drop h.pl).take n.toNat) = frames (loaded h.lo) (((h.tk s.cur).pads).take (h.pl + ((h.cur.pads.drop h.pl).take n.toNat).length))
    congr 1
    have : (h.tk s.cur).pads = h.cur.pads := by rw [← r.here]; rfl
    rw [this, List.take_add]
    congr 1
    refine List.take_eq_take_iff.mpr ?_
    rw [List.length_take]
    omega
  · rw [if_neg c, if_pos (by omega)]
    exact agree_err r g _
theorem agree_go {s : Cs05.St} {h : Hs} (r : Rel s h) (g : Good h) (k t : Int) : Agree (Cs05.spec s (.go k t)) (res h (mGo h k t)) := by
  show Agree (if Cs05.isTake s k = false then (s, [-2]) else if t < 0 ∨ (Cs05.long s k.toNat : Int) < t then (s, [-3]) else ({ s with cur := k.toNat, head := t.toNat }, Cs05.where_ { s with cur := k.toNat, head := t.toNat })) _
  unfold mGo
  rw [isTk_eq r.toRelT]
  cases e : isTk h k with
  | false => exact agree_err r g _
  | true =>
    have hk := (isTk_lt e).2
    have hk' : k.toNat < s.takes.length := by rw [← r.len]; exact hk
    rw [if_neg (by decide), if_pos rfl, r.toRelT.long hk']
    by_cases c : 0 ≤ t ∧ t ≤ ((h.tk k.toNat).pads.length : Int)
    · rw [if_pos c, if_neg (by omega)]
      obtain ⟨r1, g1⟩ := r.goTo g (k := k.toNat) (t := t.toNat) hk (by omega)
      exact agree_done r1 g1
    · rw [if_neg c, if_pos (by omega)]
      exact agree_err r g _
theorem flatMap_range {α : Type} (l : List Tak) (f : Nat → List α) (k : Tak → List α) (h : ∀ i, i < l.length → f i = k (l.getD i tnone)) : (List.range l.length).flatMap f = l.flatMap k := by
  have e : l = (List.range l.length).map fun i => l.getD i tnone := by
    refine List.ext_getElem? fun i => ?_
    rw [List.getElem?_map]
    by_cases hi : i < l.length
    · rw [List.getElem?_range hi, List.getElem?_eq_getElem hi]
      show some l[i] = some (l.getD i tnone)
      rw [List.getD_eq_getElem?_getD, List.getElem?_eq_getElem hi]
      rfl
    · rw [List.getElem?_eq_none (by omega), List.getElem?_eq_none (by rw [List.length_range]; omega)]
      rfl
  conv => rhs; rw [e]
  rw [List.flatMap_map]
  have : ∀ (r : List Nat), (∀ i ∈ r, i < l.length) → r.flatMap f = r.flatMap fun i => k (l.getD i tnone) := by
    intro r
    induction r with
    | nil => intro _; rfl
    | cons x r ih =>
      intro hr
      rw [List.flatMap_cons, List.flatMap_cons, h x (hr x List.mem_cons_self), ih fun i hi => hr i (List.mem_cons_of_mem _ hi)]
  exact this _ fun i hi => List.mem_range.mp hi
theorem agree_takes {s : Cs05.St} {h : Hs} (r : Rel s h) (g : Good h) : Agree (Cs05.spec s .takes) (res h (mTakes h)) := by
  refine agree_ok r g ?_
  show (s.takes.length : Int) :: (List.range s.takes.length).flatMap (fun (k : Nat) => [Cs05.int (if k = 0 then 0 else (tkS s k).parent + 1), Cs05.int (tkS s k).at_, Cs05.int (Cs05.long s k)]) = (h.ts.length : Int) :: h.ts.flatMap toldTake
  rw [← r.len]
  congr 1
  refine flatMap_range _ _ _ fun i hi => ?_
  have hi' : i < s.takes.length := by rw [← r.len]; exact hi
  show _ = [(h.tk i).par + 1, ((h.tk i).ahd : Int), ((h.tk i).pads.length : Int)]
  rw [r.par i hi', r.ahd i hi', r.toRelT.long hi']
  by_cases c : i = 0
  · rw [if_pos c, if_pos c]; rfl
  · rw [if_neg c, if_neg c]; rfl
theorem agree_pads {s : Cs05.St} {h : Hs} (r : Rel s h) (g : Good h) (k : Int) : Agree (Cs05.spec s (.pads k)) (res h (mPads h k)) := by
  show Agree (if Cs05.isTake s k = false then (s, [-2]) else (s, (Cs05.long s k.toNat : Int) :: (Cs05.pads s k.toNat).map Cs05.int)) _
  unfold mPads
  rw [isTk_eq r.toRelT]
  cases e : isTk h k with
  | false => exact agree_err r g _
  | true =>
    have hk' : k.toNat < s.takes.length := by rw [← r.len]; exact (isTk_lt e).2
    rw [if_neg (by decide), if_pos rfl, r.toRelT.long hk', r.toRelT.padsS hk']
    exact agree_ok r g rfl
theorem agree_parts {s : Cs05.St} {h : Hs} (r : Rel s h) (g : Good h) (a b : Int) : Agree (Cs05.spec s (.parts a b)) (res h (mParts h a b)) := by
  show Agree (if Cs05.isTake s a = false ∨ Cs05.isTake s b = false then (s, [-2]) else
    (s, (Cs05.parts (Cs05.pads s a.toNat) (Cs05.pads s b.toNat) 0 : Int) :: match Cs05.partsAt (loaded s.program) (loaded s.program) (Cs05.pads s a.toNat) (Cs05.pads s b.toNat) 0 with
      | none => [0]
      | some n => [1, Cs05.int n])) _
  unfold mParts
  rw [isTk_eq r.toRelT, isTk_eq r.toRelT]
  cases e : isTk h a with
  | false => exact agree_err r g _
  | true =>
    cases e' : isTk h b with
    | false => exact agree_err r g _
    | true =>
      have hk : a.toNat < s.takes.length := by rw [← r.len]; exact (isTk_lt e).2
      have hk' : b.toNat < s.takes.length := by rw [← r.len]; exact (isTk_lt e').2
      rw [if_neg (by decide), if_pos rfl, if_pos rfl, r.toRelT.padsS hk, r.toRelT.padsS hk', r.toRelT.loaded]
      exact agree_ok r g rfl
theorem agree_free {s : Cs05.St} {h : Hs} (r : Rel s h) (g : Good h) (t : Int) : Agree (Cs05.spec s (.free t)) (res h (mFree h t)) := by
  have hc := cur_lt r.toRelT g
  have ep : Cs05.pads s s.cur = h.cur.pads := by rw [r.toRelT.padsS hc, ← r.here]; rfl
  show Agree (if t < 0 ∨ (Cs05.long s s.cur : Int) ≤ t then (s, [-3]) else (s, [(Cs05.free (Cs05.stateAt s s.cur t.toNat) ((Cs05.pads s s.cur).getD t.toNat 0) : Int)])) _
  unfold mFree
  rw [cur_len_of r g, ep, r.toRelT.state hc, ← r.here]
  cases e : isFr h t with
  | false => rw [if_pos (isFr_not e)]; exact agree_err r g _
  | true =>
    have ht := isFr_lt e
    rw [if_neg (by omega), if_pos rfl]
    exact agree_ok r g rfl
theorem agree_state {s : Cs05.St} {h : Hs} (r : Rel s h) (g : Good h) : Agree (Cs05.spec s .state) (res h (mState h)) := by
  refine agree_ok r g ?_
  show (told (Cs05.stateAt s s.cur s.head)).map Cs05.int = intsN (told h.m)
  rw [← r.m]; rfl
theorem agree_strays {s : Cs05.St} {h : Hs} (r : Rel s h) (g : Good h) (k : Int) : Agree (Cs05.spec s (.strays k)) (res h (mStrays h k)) := by
  show Agree (if Cs05.isTake s k = false then (s, [-2]) else (s, match Cs05.strays (loaded s.program) (Cs05.all s k.toNat) 0 with
    | none => [0]
    | some n => [1, Cs05.int n])) _
  unfold mStrays
  rw [isTk_eq r.toRelT]
  cases e : isTk h k with
  | false => exact agree_err r g _
  | true =>
    have hk : k.toNat < s.takes.length := by rw [← r.len]; exact (isTk_lt e).2
    have ez : ∀ l : List (Nat × Nat), (l.map Prod.fst).zip (l.map Prod.snd) = l := by
      intro l
      induction l with
      | nil => rfl
      | cons x l ih => rw [List.map_cons, List.map_cons, List.zip_cons_cons, ih]
    rw [if_neg (by decide), if_pos rfl, r.pads _ hk, r.marks _ hk, ez, r.toRelT.loaded]
    exact agree_ok r g rfl
theorem agree_patch {s : Cs05.St} {h : Hs} (r : Rel s h) (g : Good h) (p v : Int) : Agree (Cs05.spec s (.patch p v)) (res h (mPatch h p v)) := by
  show Agree (if p < 0 ∨ 127 < p ∨ Cs05.isByte v = false then (s, [-1]) else
    ({ s with program := ((List.range 128).map fun (i : Nat) => s.program.getD i 0).set p.toNat v.toNat }, [((((List.range 128).map fun (i : Nat) => s.program.getD i 0).getD p.toNat 0 : Nat) : Int)])) _
  unfold mPatch
  rw [← r.lo]
  by_cases c : (0 ≤ p ∧ p < 128) ∧ Cs05.isByte v = true
  · have c2 := c.2
    unfold Cs05.isByte at c2
    rw [Bool.and_eq_true, decide_eq_true_eq, decide_eq_true_eq] at c2
    rw [if_pos c, if_neg (by rw [c.2]; rintro (z | z | z); omega; omega; cases z)]
    have hl : (h.lo.set p.toNat v.toNat).length = 128 := by rw [List.length_set]; exact g.lo
    have gb : ∀ b ∈ h.lo.set p.toNat v.toNat, b < 256 := mem_set g.bytes (by omega)
    have RT : RelT { s with program := h.lo.set p.toNat v.toNat } (goTo (patched h p.toNat v.toNat) h.here h.pl) := by
      have q := r.toRelT.other (h.lo.set p.toNat v.toNat) (h.lo.set p.toNat v.toNat) s.cur s.head (goTo (patched h p.toNat v.toNat) h.here h.pl).m (by
        rw [← padded_map _ (Nat.le_of_eq hl)]
        unfold padded
        rw [hl]
        exact (List.append_nil _).symm)
      have eh : goTo (patched h p.toNat v.toNat) h.here h.pl = { h with lo := h.lo.set p.toNat v.toNat, here := s.cur, pl := s.head, m := (goTo (patched h p.toNat v.toNat) h.here h.pl).m } := by rw [← r.here, ← r.pl]; rfl
      rw [eh]
      exact q
    refine agree_ok ⟨RT, ?_⟩ ⟨hl, gb, g.most, g.here, g.pl, g.tks, Wf.frames (Wf.loaded _)⟩ rfl
    have hc := cur_lt r.toRelT g
    rw [RT.state (k := s.cur) hc, ← r.here, ← r.pl]
    rfl
  · rw [if_neg c, if_pos]
    · exact agree_err r g _
    · by_cases c1 : p < 0
      · exact .inl c1
      · by_cases c2 : 127 < p
        · exact .inr (.inl c2)
        · right; right
          cases e : Cs05.isByte v with
          | false => rfl
          | true => exact absurd ⟨⟨by omega, by omega⟩, e⟩ c
/-- **each call** -/
theorem agree {s : Cs05.St} {h : Hs} (r : Rel s h) (g : Good h) (q : Cs05.Call) : Agree (Cs05.spec s q) (res h (mcall h q)) := by
  cases q with
  | begin_ l => exact agree_begin r g l
  | play l => exact agree_play r g l
  | on n => exact agree_on r g n
  | go k t => exact agree_go r g k t
  | takes => exact agree_takes r g
  | pads k => exact agree_pads r g k
  | put k a b => exact agree_put r g k a b
  | cut t => exact agree_cut r g t
  | parts a b => exact agree_parts r g a b
  | free t => exact agree_free r g t
  | state => exact agree_state r g
  | patch p v => exact agree_patch r g p v
  | strays k => exact agree_strays r g k
end Tk
-- the part TkExc
set_option maxRecDepth 100000
set_option maxHeartbeats 4000000
/-! Denied: a class over Exception. Its __init__ says Exception.__init__(self, number), then keeps the number. The library has such a class over ValueError (HandS.ExcInit); its marks for an error that is being made (exo, exd, tMkO, mk_end) serve here too. -/
namespace Tk
open PySem PySem.Spec PyProof.Rows L2

/-! ### an address beyond the old heap comes to be tracked -/
theorem un_track {fs ex : List Addr} {H H1 : Hp} {h h1 : Heap} {x : Addr} {o : HO} (u : Un fs ex H H1 h h1) (far : h.objs.size ≤ x) (n1 : H1 x = none) : Un fs ex H (upd H1 x o) h h1 :=
  have still : ∀ {b : Addr} {ob : HO}, H1 b = some ob → upd H1 x o b = some ob := fun r => (upd_ne (ne_of_none r n1)).trans r
  { keep := u.keep
    slot := u.slot
    free := fun b ob at_b n m => (upd_ne (Nat.ne_of_lt (Nat.lt_of_lt_of_le (Heap.lt_size at_b) far))).trans (u.free b ob at_b n m)
    there := u.there
    tups := fun b xs r => still (u.tups b xs r)
    frzs := fun b ob v r => still (u.frzs b ob v r)
    tbls := fun b ps r => (u.tbls b ps r).imp fun _ z => still z }
theorem hok_track {P : Program} {w : World} {H : Hp} {h : Heap} {x : Addr} {o : HO} (k : HOk P w H h) (n1 : H x = none) (new : ObjOk P w (upd H x o) h x o) : HOk P w (upd H x o) h := by
  have still : ∀ {b : Addr} {ob : HO}, H b = some ob → upd H x o b = some ob := fun r => (upd_ne (ne_of_none r n1)).trans r
  intro b ob r
  rcases Decidable.em (b = x) with eq | ne
  · cases eq
    cases upd_same.symm.trans r
    exact new
  · exact (k b ob ((upd_ne ne).symm.trans r)).stay (fun _ _ _ z => z) (fun _ z => still z) fun _ _ z => still z
theorem upd_again {H : Hp} {a : Addr} {o : HO} (r : H a = some o) : upd H a o = H :=
  funext fun b => (Decidable.em (b = a)).elim (fun z => by rw [z, upd_same, r]) fun z => upd_ne z

/-! ### the class -/
/-- Denied at D, as the top has written it -/
structure Err (K : PySem.W.Frag) (D : Addr) : Prop where
  row : ∃ nm q N bs sn sub ab col dd m0 m1 m2 m3 m5, K.lookup D = some (excClassObj nm q D N bs PySem.ESX.exTail true sn sub ab col dd m0 m1 m2 m3 m5 "Exception.__new__")
  stores : PySem.W.findIn K (.ref D) "__setattr__" = some (some (.builtin "object.__setattr__"))
  isErr : PySem.W.subIn K (.ref D) (.type "BaseException") = some true
  isType : PySem.W.typeIn K (.ref D) = some (.type "type")
  kept : PySem.W.keepIn K (.ref D) = true
theorem Err.cls {K : PySem.W.Frag} {D : Addr} (T : Err K D) : ∃ cd, PySem.W.clsIn K D = some cd ∧ cd.mro = .ref D :: PySem.ESX.exTail ∧ cd.hasDict = true := by
  obtain ⟨nm, q, N, bs, sn, sub, ab, col, dd, m0, m1, m2, m3, m5, row⟩ := T.row
  refine ⟨?c, ?g, ?m, ?d⟩
  case g => unfold PySem.W.clsIn; rw [row]
  case m => rfl
  case d => rfl

section
variable {X : Cx} {pins : List (Addr × Obj)} {σ : L2.St} {H : Hp} {s : Shared} {a D : Addr} {A : Around}
/-- the error at a gets its dict at x -/
theorem inv_dict {h' : Heap} {x t1 : Addr} {t' : Nat} {fs : List (Str × V)} {m : Str → Option Value} (I : Inv X pins σ H s) (ea : H a = some (exo a D none)) (far : s.heap.objs.size ≤ x) (off : x ≠ a)
    (keep : ∀ b u, b ≠ a → s.heap.get? b = some u → h'.get? b = some u) (ga : h'.get? a = some ({ cls := .ref D, dict := some x, data := .fields #[.ref t1, .none, .none, .none, .bool false, .none] } : Obj))
    (gx : h'.Ns1 x m) (rel : ∀ g, RelO (fs.lookup g) (m g)) : Inv X pins σ (upd (upd H a (exo a D (some x))) x (exd x fs)) { s with heap := h', toks := t' } := by
  have mu : Mut (H a) := by rw [ea]; trivial
  have n1 : upd H a (exo a D (some x)) x = none := (upd_ne off).trans (I.hok.fresh far)
  exact I.un (un_track (Un.write mu (.inl rfl) keep ⟨_, ga⟩) far n1) (hok_track (I.hok.write mu (.inl rfl) keep ⟨_, ga⟩ (exo_ok ga)) n1 (exd_ok gx rel))
/-- self.f = v, where the error has no dict as yet -/
theorem err_set {f : Str} {v : V} {u : Value} {Q : Unit → Shared → Prop} {E : Value → Shared → Prop} (T : Err X.K D) (I : Inv X pins σ H s) (ea : H a = some (exo a D none)) (no : PySem.W.findIn X.K (.ref D) f = some none) (r : RelV v u)
    (k : ∀ x s', H x = none → x ≠ a → Inv X pins σ (upd (upd H a (exo a D (some x))) x (exd x [(f, v)])) s' → Q () s') :
    wpAny (model X.prog X.w) A (setAttr (.ref a) f u) Q E s := by
  obtain ⟨cd, isC, mro, dict⟩ := T.cls
  obtain ⟨t1, ga⟩ := exo_at I.hok ea
  cases s
  exact PySem.W.set_plain I.kIn (od := none) ⟨ga, rfl, rfl, True.intro⟩ T.stores
    (PySem.ESX.osa_new I.kIn ga isC mro dict no fun h' t' x keep far off ga' gx => k x _ (I.hok.fresh far) off (inv_dict (t' := t') I ea far off keep ga' gx (relO_put (fs := []) r fun _ => trivial)))
/-- Exception.__init__(self, ..) leaves all that is tracked -/
theorem err_base {us : List Value} {Q : Value → Shared → Prop} {E : Value → Shared → Prop} (T : Err X.K D) (I : Inv X pins σ H s) (ea : H a = some (exo a D none)) (few : us.length ≤ sizeLine) (k : ∀ s', Inv X pins σ H s' → Q .none s') :
    wpAny (model X.prog X.w) A (call (.builtin "Exception.__init__") (.ref a :: us)) Q E s := by
  obtain ⟨nm, q, N, bs, sn, sub, ab, col, dd, m0, m1, m2, m3, m5, row⟩ := T.row
  obtain ⟨t0, ga⟩ := exo_at I.hok ea
  cases s with | mk hp gens dr tk os =>
  refine wpAny_call (PySem.HandSPX.init_base F.excBase_Exception (fun _ => rfl) (I.kIn _ _ row) ga few fun h' t1 keep ga' => k _ ?_)
  have J := I.write (t' := tk) (o := exo a D none) (by rw [ea]; trivial) (.inl rfl) keep ⟨_, ga'⟩ (exo_ok ga')
  exact upd_again ea ▸ J
/-- a new error is laid -/
theorem inv_new {hp : Heap} {g : Array GenState} {dr : Drawn} {tk : Nat} {os : OsState} (us : List Value) (I : Inv X pins σ H ⟨hp, g, dr, tk, os⟩) :
    (∀ b o, hp.get? b = some o → ((hp.push (PySem.W.kdv_tup us)).push (PySem.HandSPX.excO D hp.objs.size)).get? b = some o) ∧
      Inv X pins σ (upd H (hp.objs.size + 1) (exo (hp.objs.size + 1) D none)) ⟨(hp.push (PySem.W.kdv_tup us)).push (PySem.HandSPX.excO D hp.objs.size), g, dr, tk, os⟩ :=
  have keep : ∀ b o, hp.get? b = some o → ((hp.push (PySem.W.kdv_tup us)).push (PySem.HandSPX.excO D hp.objs.size)).get? b = some o := fun _ _ z => Heap.get?_push_of_some _ (Heap.get?_push_of_some _ z)
  ⟨keep, I.laid (t' := tk) keep (Nat.le_succ _) (exo_ok (t1 := hp.objs.size) (by heap_get))⟩
end

/-! ### readings -/
section
variable {X : Cx} {D : Addr} {o e : Expr} {es : List Expr} {to te : TE} {ta : TA} {f : Str} {p p' p1 p2 pos : Pos}
/-- Exception.__init__(self, v) -/
def tBase (D : Addr) (ta : TA) : TE := fun σ H Q => ta σ H fun vs H1 => ∃ (a : Addr) (v : V), vs = [.ref a, v] ∧ H1 a = some (exo a D none) ∧ Q .non H1
/-- self.f = v, the error's only field -/
def tOnly (D : Addr) (f : Str) (to te : TE) : TS := fun R σ H => te σ H fun v H1 => to σ H1 fun z H2 => ∃ a : Addr, z = .ref a ∧ H2 a = some (exo a D none) ∧
  ∀ x, H2 x = none → x ≠ a → R.nx σ (upd (upd H2 a (exo a D (some x))) x (exd x [(f, v)]))
theorem ps_only (T : Err X.K D) (no : PySem.W.findIn X.K (.ref D) f = some none) (ho : PE X o to) (he : PE X e te) (hs : swapsWith e (some (.Attribute o f p')) pos.line X.env = pure false := by rfl) :
    PS X (.Assign [.Attribute o f p'] e pos) (tOnly D f to te) :=
  ⟨fun pins s σ H R I h => plainObj_wpAny_Assign_Attribute (thn (he.run pins s σ H _ I h) fun u s1 ⟨v, H1, I1, rv, h1⟩ => thn (ho.run pins s1 σ H1 _ I1 h1) fun z s2 ⟨y, H2, I2, ry, a, ya, ea, k⟩ => by
    subst ya
    cases (show z = Value.ref a from ry)
    exact err_set T I2 ea no rv fun x s3 free off J => ⟨σ, _, J, k x free off⟩) hs⟩
theorem type_Exc : typeOf (.type "Exception") = pure (.type "type") := by kernel_rfl
theorem init_Exc (K : PySem.W.Frag) : PySem.W.findCls K (.type "Exception") (.type "type") "__init__" = some (.val (.builtin "Exception.__init__")) := by first | rfl | kernel_rfl
theorem pe_base {pl : Sem Bool} (T : Err X.K D) (hg : Gl X "Exception") (hm : X.mg "Exception" = none) (ha : PA X (e :: es) ta)
    (hc : eval (.Call (.Attribute (.Name "Exception" p1) "__init__" p2) (e :: es) [] pos) X.env =
      (do
        let c ← eval (.Name "Exception" p1) X.env
        standAt p2.atName
        let (m, self) ← holding [c] (getMethod c "__init__" pl)
        callWith pos m self (backTo pos (starEach (e :: es) X.env)) (backToKw pos (keywordEach [] X.env))) := by rfl)
    (he : starEach (e :: es) X.env = (false, eval e X.env) :: starEach es X.env := by rfl) (hpl : (backTo pos (starEach es X.env)).any (·.1) = false := by rfl) :
    PE X (.Call (.Attribute (.Name "Exception" p1) "__init__" p2) (e :: es) [] pos) (tBase D ta) := by
  constructor
  intro pins s σ H Q I h
  refine PySem.W.methodCall_KW (ld_blt I hg hm PyProof.Rows.Boot.«Exception» ?_ (by decide) (by decide)) hc
  obtain ⟨_, fr⟩ := I.fr
  refine PySem.W.method_type fr I.ok.mod.kin type_Exc (by decide +kernel) (init_Exc _) (by decide +kernel) ?_
  refine PyProof.Rows.callWith_method1 (id := "Exception.__init__") (thn (ha.run pos pins _ σ H _ (I.tok _) h) fun us s1 ⟨vs, H1, I1, rvs, a, v, two, ea, k⟩ => ?_) he hpl
  subst two
  cases rvs with | cons ra rest =>
  cases rest with | cons rb nil =>
  cases nil
  cases ra
  exact err_base T I1 ea (by rw [sizeLine_eq]; show 1 ≤ 16777216; decide) fun s2 J => ⟨.non, H1, J, rfl, k⟩
/-- D(v), where D's __init__ keeps sp -/
theorem pmk_err {CX : CXT} {x : Str} {fI : Addr} {n : Nat} {fd : FuncData} {ps : List Str} {sp : Sp} (T : Err X.K D) (hI : PySem.W.findIn X.K (.ref D) "__init__" = some (some (.ref fI))) (tI : PySem.W.typeIn X.K (.ref fI) = some (.type "function"))
    (F1 : FnOk X.prog X.w X.K X.mg X.base CX n fI fd ps sp) (hr : Room (n + 1) X.A) (hb : Binds X.K fd ps []) (hx : Passes CX X (fun _ _ _ => False)) (hg : Gl X x) (hm : X.mg x = some (.ref D)) (ha : PA X [e] ta)
    (hd : (x == ("__debug__" : Str)) = false) (he : starEach [e] X.env = (false, eval e X.env) :: starEach [] X.env) (hpl : (backTo pos (starEach [] X.env)).any (·.1) = false) :
    PMk X (.Call (.Name x p) [e] [] pos) (tMkO D sp [] ta) := fun pins s σ H Q I h => by
  obtain ⟨nm, q, N, bs, sn, sub, ab, col, dd, m0, m1, m2, m3, m5, row⟩ := T.row
  refine wpAny_Call_Name_kw (ld_glob I hg hm (PySem.W.callWith_K (h₀ := X.base) I.ok.mod.kin T.kept (thn (ha.run pos pins s σ H _ I h) fun us s1 ⟨vs, H1, I1, rvs, _, ask⟩ => ⟨I1.kIn, ?_⟩) he hpl) hd)
  show wpAny _ _ (call (.ref D) us) _ _ _
  cases s1 with | mk hp gens dr tk os =>
  have far := Nat.le_succ hp.objs.size
  have asked := ask (hp.objs.size + 1) (I1.hok.fresh far)
  obtain ⟨keep, J⟩ := inv_new (D := D) us I1
  have all : Vals (.ref (hp.objs.size + 1) :: (vs ++ [])) (.ref (hp.objs.size + 1) :: (us ++ [])) := .cons rfl (rvs.append .nil)
  have count : (Value.ref (hp.objs.size + 1) :: us ++ []).length = ps.length := all.length.symm.trans (F1.len _ _ _ _ asked)
  have bound := hb _ (.ref (hp.objs.size + 1) :: us) J.kIn count
  rw [List.cons_append] at bound
  have few : us.length ≤ sizeLine := by have z := rvs.length; rw [sizeLine_eq]; omega
  refine wpAny_call (PySem.HandSPX.call_own F.excBase_Exception (fun _ => rfl) (I1.kIn _ _ row) (PySem.W.looks_findIn I1.kIn hI) (fun z => PySem.W.bind_fn I1.kIn z tI) few (codeAny_mono
    (F1.run _ X.stack _ _ ⟨.ref (hp.objs.size + 1) :: us, []⟩ (.ref (hp.objs.size + 1) :: (us ++ [])) _ _ (fun _ _ _ => False) (hr.make D us []) (J.env0.make D us []) bound all asked) ?_))
  intro r s2 back
  match r, back with
  | .error z, back => exact hx pins σ _ _ z s2 J back
  | .ok (.ret u), ⟨v, H2, os2, bare2, un2, hok2, rv, ev, d, fs, ea, ed, fresh, k⟩ =>
    cases s2
    cases ev
    exact ⟨rv, mk_end (raises_own T.isErr T.isType) I1 far keep un2 hok2 os2 bare2 ea ed fresh k⟩
  | .ok .next, back => cases back
  | .ok .brk, back => cases back
  | .ok .cont, back => cases back
end
end Tk
-- the part TkBase
set_option maxRecDepth 100000
set_option maxHeartbeats 4000000
namespace Tk
open PySem PySem.Spec PyProof.Rows L2
open CsBase (Mach)

/-! ### the text by places -/
def top (i : Nat) : Stmt := PySem.Challenge.pw_takehouse_s01_answers.main.body.getD i (.Pass ⟨0, 0, 0, 0⟩)
abbrev s_Machine_init : Stmt := inClass (top 7) 0
theorem sc_Machine_init : FnScope ["self", "loaded"] ["self", "loaded"] (defScope s_Machine_init) := ⟨rfl, rfl, rfl, by decide +kernel, rfl, by decide +kernel, by decide +kernel⟩
abbrev s_copied : Stmt := top 8
theorem sc_copied : FnScope ["machine", "found"] ["machine"] (defScope s_copied) := ⟨rfl, rfl, rfl, by decide +kernel, rfl, by decide +kernel, by decide +kernel⟩
abbrev s_byte_at : Stmt := top 9
theorem sc_byte_at : FnScope ["machine", "place"] ["machine", "place"] (defScope s_byte_at) := ⟨rfl, rfl, rfl, by decide +kernel, rfl, by decide +kernel, by decide +kernel⟩
abbrev s_set_byte : Stmt := top 10
theorem sc_set_byte : FnScope ["machine", "place", "byte"] ["machine", "place", "byte"] (defScope s_set_byte) := ⟨rfl, rfl, rfl, by decide +kernel, rfl, by decide +kernel, by decide +kernel⟩
abbrev s_set_a : Stmt := top 11
theorem sc_set_a : FnScope ["machine", "n"] ["machine", "n"] (defScope s_set_a) := ⟨rfl, rfl, rfl, by decide +kernel, rfl, by decide +kernel, by decide +kernel⟩
abbrev s_set_x : Stmt := top 12
theorem sc_set_x : FnScope ["machine", "n"] ["machine", "n"] (defScope s_set_x) := ⟨rfl, rfl, rfl, by decide +kernel, rfl, by decide +kernel, by decide +kernel⟩
abbrev s_add_or_take : Stmt := top 13
theorem sc_add_or_take : FnScope ["machine", "which", "n", "byte"] ["machine", "which", "n"] (defScope s_add_or_take) := ⟨rfl, rfl, rfl, by decide +kernel, rfl, by decide +kernel, by decide +kernel⟩
abbrev s_move : Stmt := top 14
theorem sc_move : FnScope ["machine", "which", "n"] ["machine", "which", "n"] (defScope s_move) := ⟨rfl, rfl, rfl, by decide +kernel, rfl, by decide +kernel, by decide +kernel⟩
abbrev s_jumps : Stmt := top 15
theorem sc_jumps : FnScope ["machine", "which"] ["machine", "which"] (defScope s_jumps) := ⟨rfl, rfl, rfl, by decide +kernel, rfl, by decide +kernel, by decide +kernel⟩
abbrev s_do_one : Stmt := top 16
theorem sc_do_one : FnScope ["machine", "which", "n", "following"] ["machine"] (defScope s_do_one) := ⟨rfl, rfl, rfl, by decide +kernel, rfl, by decide +kernel, by decide +kernel⟩
abbrev s_run_frame : Stmt := top 17
theorem sc_run_frame : FnScope ["machine", "pad", "done"] ["machine", "pad"] (defScope s_run_frame) := ⟨rfl, rfl, rfl, by decide +kernel, rfl, by decide +kernel, by decide +kernel⟩
abbrev s_as_numbers : Stmt := top 18
theorem sc_as_numbers : FnScope ["machine", "flags"] ["machine"] (defScope s_as_numbers) := ⟨rfl, rfl, rfl, by decide +kernel, rfl, by decide +kernel, by decide +kernel⟩
abbrev s_mark_of : Stmt := top 19
theorem sc_mark_of : FnScope ["machine", "mark", "n"] ["machine"] (defScope s_mark_of) := ⟨rfl, rfl, rfl, by decide +kernel, rfl, by decide +kernel, by decide +kernel⟩
abbrev s_are_alike : Stmt := top 20
theorem sc_are_alike : FnScope ["first", "second"] ["first", "second"] (defScope s_are_alike) := ⟨rfl, rfl, rfl, by decide +kernel, rfl, by decide +kernel, by decide +kernel⟩
abbrev s_Take_init : Stmt := inClass (top 22) 0
theorem sc_Take_init : FnScope ["self", "parent", "ahead", "pads", "marks"] ["self", "parent", "ahead", "pads", "marks"] (defScope s_Take_init) := ⟨rfl, rfl, rfl, by decide +kernel, rfl, by decide +kernel, by decide +kernel⟩
abbrev s_House_init : Stmt := inClass (top 23) 0
theorem sc_House_init : FnScope ["self", "content"] ["self", "content"] (defScope s_House_init) := ⟨rfl, rfl, rfl, by decide +kernel, rfl, by decide +kernel, by decide +kernel⟩
abbrev s_machine_ahead : Stmt := top 24
theorem sc_machine_ahead : FnScope ["house", "take", "t", "machine", "pad"] ["house", "take", "t"] (defScope s_machine_ahead) := ⟨rfl, rfl, rfl, by decide +kernel, rfl, by decide +kernel, by decide +kernel⟩
abbrev s_go_to : Stmt := top 25
theorem sc_go_to : FnScope ["house", "here", "played"] ["house", "here", "played"] (defScope s_go_to) := ⟨rfl, rfl, rfl, by decide +kernel, rfl, by decide +kernel, by decide +kernel⟩
abbrev s_play_on : Stmt := top 26
theorem sc_play_on : FnScope ["house", "many", "pads", "pad"] ["house", "many"] (defScope s_play_on) := ⟨rfl, rfl, rfl, by decide +kernel, rfl, by decide +kernel, by decide +kernel⟩
abbrev s_play_pad : Stmt := top 27
theorem sc_play_pad : FnScope ["house", "pad", "take", "new_take"] ["house", "pad"] (defScope s_play_pad) := ⟨rfl, rfl, rfl, by decide +kernel, rfl, by decide +kernel, by decide +kernel⟩
abbrev s_first_difference : Stmt := top 28
theorem sc_first_difference : FnScope ["first", "second", "both", "k"] ["first", "second"] (defScope s_first_difference) := ⟨rfl, rfl, rfl, by decide +kernel, rfl, by decide +kernel, by decide +kernel⟩
abbrev s_first_unlike : Stmt := top 29
theorem sc_first_unlike : FnScope ["house", "first", "second", "one", "other", "k", "pad", "other_pad"] ["house", "first", "second"] (defScope s_first_unlike) := ⟨rfl, rfl, rfl, by decide +kernel, rfl, by decide +kernel, by decide +kernel⟩
abbrev s_count_free : Stmt := top 30
theorem sc_count_free : FnScope ["house", "t", "take", "ahead", "recorded", "many", "pad", "machine"] ["house", "t"] (defScope s_count_free) := ⟨rfl, rfl, rfl, by decide +kernel, rfl, by decide +kernel, by decide +kernel⟩
abbrev s_first_stray : Stmt := top 31
theorem sc_first_stray : FnScope ["house", "take", "machine", "k", "pad"] ["house", "take"] (defScope s_first_stray) := ⟨rfl, rfl, rfl, by decide +kernel, rfl, by decide +kernel, by decide +kernel⟩
abbrev s_Denied_init : Stmt := inClass (top 36) 0
theorem sc_Denied_init : FnScope ["self", "number"] ["self", "number"] (defScope s_Denied_init) := ⟨rfl, rfl, rfl, by decide +kernel, rfl, by decide +kernel, by decide +kernel⟩
abbrev s_Calls_init : Stmt := inClass (top 37) 0
theorem sc_Calls_init : FnScope ["self", "numbers"] ["self", "numbers"] (defScope s_Calls_init) := ⟨rfl, rfl, rfl, by decide +kernel, rfl, by decide +kernel, by decide +kernel⟩
abbrev s_next_number : Stmt := inClass (top 37) 1
theorem sc_next_number : FnScope ["self"] ["self"] (defScope s_next_number) := ⟨rfl, rfl, rfl, by decide +kernel, rfl, by decide +kernel, by decide +kernel⟩
abbrev s_next_row : Stmt := inClass (top 37) 2
theorem sc_next_row : FnScope ["self", "many"] ["self"] (defScope s_next_row) := ⟨rfl, rfl, rfl, by decide +kernel, rfl, by decide +kernel, by decide +kernel⟩
abbrev s_need : Stmt := top 38
theorem sc_need : FnScope ["holds", "number"] ["holds", "number"] (defScope s_need) := ⟨rfl, rfl, rfl, by decide +kernel, rfl, by decide +kernel, by decide +kernel⟩
abbrev s_are_bytes : Stmt := top 39
theorem sc_are_bytes : FnScope ["numbers", "n"] ["numbers"] (defScope s_are_bytes) := ⟨rfl, rfl, rfl, by decide +kernel, rfl, by decide +kernel, by decide +kernel⟩
abbrev s_take_of : Stmt := top 40
theorem sc_take_of : FnScope ["house", "k"] ["house", "k"] (defScope s_take_of) := ⟨rfl, rfl, rfl, by decide +kernel, rfl, by decide +kernel, by decide +kernel⟩
abbrev s_where : Stmt := top 41
theorem sc_where : FnScope ["house"] ["house"] (defScope s_where) := ⟨rfl, rfl, rfl, by decide +kernel, rfl, by decide +kernel, by decide +kernel⟩
abbrev s_need_room : Stmt := top 42
theorem sc_need_room : FnScope ["house", "here", "played", "pads"] ["house", "here", "played", "pads"] (defScope s_need_room) := ⟨rfl, rfl, rfl, by decide +kernel, rfl, by decide +kernel, by decide +kernel⟩
abbrev s_play_all : Stmt := top 43
theorem sc_play_all : FnScope ["house", "pads", "pad"] ["house", "pads"] (defScope s_play_all) := ⟨rfl, rfl, rfl, by decide +kernel, rfl, by decide +kernel, by decide +kernel⟩
abbrev s_do_begin : Stmt := top 44
theorem sc_do_begin : FnScope ["content"] ["content"] (defScope s_do_begin) := ⟨rfl, rfl, rfl, by decide +kernel, rfl, by decide +kernel, by decide +kernel⟩
abbrev s_do_play : Stmt := top 45
theorem sc_do_play : FnScope ["house", "pads"] ["house", "pads"] (defScope s_do_play) := ⟨rfl, rfl, rfl, by decide +kernel, rfl, by decide +kernel, by decide +kernel⟩
abbrev s_do_on : Stmt := top 46
theorem sc_do_on : FnScope ["house", "n"] ["house", "n"] (defScope s_do_on) := ⟨rfl, rfl, rfl, by decide +kernel, rfl, by decide +kernel, by decide +kernel⟩
abbrev s_do_go : Stmt := top 47
theorem sc_do_go : FnScope ["house", "k", "t", "take"] ["house", "k", "t"] (defScope s_do_go) := ⟨rfl, rfl, rfl, by decide +kernel, rfl, by decide +kernel, by decide +kernel⟩
abbrev s_do_takes : Stmt := top 48
theorem sc_do_takes : FnScope ["house", "told", "take"] ["house"] (defScope s_do_takes) := ⟨rfl, rfl, rfl, by decide +kernel, rfl, by decide +kernel, by decide +kernel⟩
abbrev s_do_pads : Stmt := top 49
theorem sc_do_pads : FnScope ["house", "k", "take"] ["house", "k"] (defScope s_do_pads) := ⟨rfl, rfl, rfl, by decide +kernel, rfl, by decide +kernel, by decide +kernel⟩
abbrev s_do_put : Stmt := top 50
theorem sc_do_put : FnScope ["house", "k", "a", "b", "take", "pads"] ["house", "k", "a", "b"] (defScope s_do_put) := ⟨rfl, rfl, rfl, by decide +kernel, rfl, by decide +kernel, by decide +kernel⟩
abbrev s_need_frame : Stmt := top 51
theorem sc_need_frame : FnScope ["house", "t"] ["house", "t"] (defScope s_need_frame) := ⟨rfl, rfl, rfl, by decide +kernel, rfl, by decide +kernel, by decide +kernel⟩
abbrev s_do_cut : Stmt := top 52
theorem sc_do_cut : FnScope ["house", "t", "pads"] ["house", "t"] (defScope s_do_cut) := ⟨rfl, rfl, rfl, by decide +kernel, rfl, by decide +kernel, by decide +kernel⟩
abbrev s_do_parts : Stmt := top 53
theorem sc_do_parts : FnScope ["house", "k", "other", "first", "second", "ahead"] ["house", "k", "other"] (defScope s_do_parts) := ⟨rfl, rfl, rfl, by decide +kernel, rfl, by decide +kernel, by decide +kernel⟩
abbrev s_do_free : Stmt := top 54
theorem sc_do_free : FnScope ["house", "t"] ["house", "t"] (defScope s_do_free) := ⟨rfl, rfl, rfl, by decide +kernel, rfl, by decide +kernel, by decide +kernel⟩
abbrev s_do_patch : Stmt := top 55
theorem sc_do_patch : FnScope ["house", "place", "byte", "before"] ["house", "place", "byte"] (defScope s_do_patch) := ⟨rfl, rfl, rfl, by decide +kernel, rfl, by decide +kernel, by decide +kernel⟩
abbrev s_do_strays : Stmt := top 56
theorem sc_do_strays : FnScope ["house", "k", "stray"] ["house", "k"] (defScope s_do_strays) := ⟨rfl, rfl, rfl, by decide +kernel, rfl, by decide +kernel, by decide +kernel⟩
abbrev s_call_of_one : Stmt := top 57
theorem sc_call_of_one : FnScope ["house", "call", "n"] ["house", "call", "n"] (defScope s_call_of_one) := ⟨rfl, rfl, rfl, by decide +kernel, rfl, by decide +kernel, by decide +kernel⟩
abbrev s_answer_call : Stmt := top 58
theorem sc_answer_call : FnScope ["house", "call", "reading", "first", "second"] ["house", "call", "reading"] (defScope s_answer_call) := ⟨rfl, rfl, rfl, by decide +kernel, rfl, by decide +kernel, by decide +kernel⟩
abbrev s_answers : Stmt := top 59
theorem sc_answers : FnScope ["calls", "house", "reading", "found", "call", "answer", "refusal"] ["calls"] (defScope s_answers) := ⟨rfl, rfl, rfl, by decide +kernel, rfl, by decide +kernel, by decide +kernel⟩

/-! ### a def that keeps a promise, wherever it stands -/
section
variable (P : Program) (w : World) (K : PySem.W.Frag) (mg : Str → Option Value) (base : Heap)
structure Cal (CX : CXT) (k : Nat) (x : Str) (ps : List Str) (sp : Sp) : Prop where
  ex : ∃ (f : Addr) (fd : FuncData), FnOk P w K mg base CX k f fd ps sp ∧ mg x = some (.ref f) ∧ PySem.W.keepIn K (.ref f) = true ∧ Binds K fd ps []
structure CalM (C : Addr) (k : Nat) (x : Str) (ps : List Str) (sp : Sp) : Prop where
  ex : ∃ (f : Addr) (fd : FuncData), FnOk P w K mg base CX0 k f fd ps sp ∧ mg x = some (.ref C) ∧ Mk K C f ∧ Binds K fd ps []
structure CalT (C : Addr) (k : Nat) (m : Str) (ps : List Str) (sp : Sp) : Prop where
  ex : ∃ (f : Addr) (fd : FuncData), FnOk P w K mg base CX0 k f fd ps sp ∧ Meth K C m f ∧ Binds K fd ps []
end
/-- where a def of the text stands -/
structure DefAt (K : PySem.W.Frag) (mg : Str → Option Value) (x : Str) (st : Stmt) (ps : List Str) : Prop where
  ex : ∃ (f : Addr) (fd : FuncData), mg x = some (.ref f) ∧ Fun K x x st f fd ∧ Binds K fd ps []
structure InitAt (K : PySem.W.Frag) (mg : Str → Option Value) (C : Addr) (x q : Str) (st : Stmt) (ps : List Str) : Prop where
  ex : ∃ (f : Addr) (fd : FuncData), mg x = some (.ref C) ∧ Mk K C f ∧ Fun K "__init__" q st f fd ∧ Binds K fd ps []
structure MethAt (K : PySem.W.Frag) (C : Addr) (m q : Str) (st : Stmt) (ps : List Str) : Prop where
  ex : ∃ (f : Addr) (fd : FuncData), Meth K C m f ∧ Fun K m q st f fd ∧ Binds K fd ps []
section
variable {P : Program} {w : World} {K : PySem.W.Frag} {mg : Str → Option Value} {base : Heap} {C : Addr} {k : Nat} {x q : Str} {st : Stmt} {N ps : List Str} {sp : Sp}
theorem DefAt.ok (D : DefAt K mg x st ps) (S : FnScope N ps (defScope st)) (len : ∀ vs H Q E, sp vs H Q E → vs.length = ps.length)
    (hbody : ∀ (q : Str) (f : Addr) (cdv : Value) (A : Around) (outer : List Env) (s : Shared) (H : Hp) (vs : List V) (Q : VK) (E : XK), Room k (A.deeper (envOfC x (defScope st) s.heap.objs.size f cdv)) → sp vs H Q E →
      ∃ t, PSs (cxOf CX0 P w K mg base N x (defScope st) f cdv A outer s H E).nox (defBody st) t ∧ t { nx := fun _ H' => Q .non H', rt := Q } (start N vs) H) : Cal P w K mg base CX0 (k + 1) x ps sp := by
  obtain ⟨f, fd, hm, F, b⟩ := D.ex
  exact ⟨f, fd, F.ok S len fun cdv A outer s H vs Q E hr h => hbody x f cdv A outer s H vs Q E hr h, hm, F.kp, b⟩
theorem DefAt.okX (D : DefAt K mg x st ps) (S : FnScope N ps (defScope st)) (len : ∀ vs H Q E, sp vs H Q E → vs.length = ps.length)
    (hbody : ∀ (q : Str) (f : Addr) (cdv : Value) (A : Around) (outer : List Env) (s : Shared) (H : Hp) (vs : List V) (Q : VK) (E : XK), Room k (A.deeper (envOfC x (defScope st) s.heap.objs.size f cdv)) → sp vs H Q E →
      ∃ t, PSs (cxOf (L2.CX P w) P w K mg base N x (defScope st) f cdv A outer s H E) (defBody st) t ∧ t { nx := fun _ H' => Q .non H', rt := Q } (start N vs) H) : Cal P w K mg base (L2.CX P w) (k + 1) x ps sp := by
  obtain ⟨f, fd, hm, F, b⟩ := D.ex
  exact ⟨f, fd, F.okX S len fun cdv A outer s H vs Q E hr h => hbody x f cdv A outer s H vs Q E hr h, hm, F.kp, b⟩
theorem InitAt.ok (D : InitAt K mg C x q st ps) (S : FnScope N ps (defScope st)) (len : ∀ vs H Q E, sp vs H Q E → vs.length = ps.length)
    (hbody : ∀ (f : Addr) (cdv : Value) (A : Around) (outer : List Env) (s : Shared) (H : Hp) (vs : List V) (Q : VK) (E : XK), Room k (A.deeper (envOfC q (defScope st) s.heap.objs.size f cdv)) → sp vs H Q E →
      ∃ t, PSs (cxOf CX0 P w K mg base N q (defScope st) f cdv A outer s H E).nox (defBody st) t ∧ t { nx := fun _ H' => Q .non H', rt := Q } (start N vs) H) : CalM P w K mg base C (k + 1) x ps sp := by
  obtain ⟨f, fd, hm, M, F, b⟩ := D.ex
  exact ⟨f, fd, F.ok S len fun cdv A outer s H vs Q E hr h => hbody f cdv A outer s H vs Q E hr h, hm, M, b⟩
theorem MethAt.ok {m : Str} (D : MethAt K C m q st ps) (S : FnScope N ps (defScope st)) (len : ∀ vs H Q E, sp vs H Q E → vs.length = ps.length)
    (hbody : ∀ (f : Addr) (cdv : Value) (A : Around) (outer : List Env) (s : Shared) (H : Hp) (vs : List V) (Q : VK) (E : XK), Room k (A.deeper (envOfC q (defScope st) s.heap.objs.size f cdv)) → sp vs H Q E →
      ∃ t, PSs (cxOf CX0 P w K mg base N q (defScope st) f cdv A outer s H E).nox (defBody st) t ∧ t { nx := fun _ H' => Q .non H', rt := Q } (start N vs) H) : CalT P w K mg base C (k + 1) m ps sp := by
  obtain ⟨f, fd, M, F, b⟩ := D.ex
  exact ⟨f, fd, F.ok S len fun cdv A outer s H vs Q E hr h => hbody f cdv A outer s H vs Q E hr h, M, b⟩
end
section
variable {X : Cx} {CX : CXT} {k : Nat} {C : Addr} {ps : List Str} {sp : Sp} {E : XK} {x m : Str} {p pos apos : Pos} {e o : Expr} {es : List Expr} {ta : TE} {t : TA} {n : Int}
theorem pc_int {x : Str} {pos : Pos} (hg : Gl X x) (h : ∃ t, X.mg x = some (.int n t)) (hd : (x == ("__debug__" : Str)) = false := by decide) : PE X (.Name x pos) (tC (.int n)) := by
  obtain ⟨t, h⟩ := h
  exact pe_glob hg h ⟨_, rfl⟩ hd
theorem pc_call (c : Cal X.prog X.w X.K X.mg X.base CX k x ps sp) (hr : Room k X.A) (hg : Gl X x) (hx : Passes CX X E) (ha : PA X (e :: es) t) (hdb : (x == ("__debug__" : Str)) = false := by decide)
    (he : starEach (e :: es) X.env = (false, eval e X.env) :: starEach es X.env := by rfl) (hpl : (backTo pos (starEach es X.env)).any (·.1) = false := by rfl) : PE X (.Call (.Name x p) (e :: es) [] pos) (tCall sp [] E t) := by
  obtain ⟨f, fd, F, hm, hk, hb⟩ := c.ex
  exact pe_call F hr hg hm hk hb .nil hx ha hdb he hpl
theorem pc_callS {E : L2.St → XK} (c : Cal X.prog X.w X.K X.mg X.base CX k x ps sp) (hr : Room k X.A) (hg : Gl X x) (hx : ∀ σ, PassesAt CX X σ (E σ)) (ha : PA X (e :: es) t) (hdb : (x == ("__debug__" : Str)) = false := by decide)
    (he : starEach (e :: es) X.env = (false, eval e X.env) :: starEach es X.env := by rfl) (hpl : (backTo pos (starEach es X.env)).any (·.1) = false := by rfl) : PE X (.Call (.Name x p) (e :: es) [] pos) (tCallS sp E t) := by
  obtain ⟨f, fd, F, hm, hk, hb⟩ := c.ex
  exact pe_callS F hr hg hm hk hb hx ha hdb he hpl
theorem pc_make (c : CalM X.prog X.w X.K X.mg X.base C k x ps sp) (hr : Room (k + 1) X.A) (hg : Gl X x) (hx : Passes CX0 X E) (ha : PA X (e :: es) t) (hdb : (x == ("__debug__" : Str)) = false := by decide)
    (he : starEach (e :: es) X.env = (false, eval e X.env) :: starEach es X.env := by rfl) (hpl : (backTo pos (starEach es X.env)).any (·.1) = false := by rfl) : PE X (.Call (.Name x p) (e :: es) [] pos) (tMake C sp [] E t) := by
  obtain ⟨f, fd, F, hm, M, hb⟩ := c.ex
  exact pe_make M F hr hg hm hb .nil hx ha hdb he hpl
theorem pc_meth0 {pl : Sem Bool} (ho : PE X o ta) (cl : Cls X.K C) (c : CalT X.prog X.w X.K X.mg X.base C k m ps sp) (hr : Room k X.A) (hx : Passes CX0 X E)
    (ht : eval (.Call (.Attribute o m apos) [] [] pos) X.env = (do
      let ov ← eval o X.env
      standAt apos.atName
      let (f, first) ← holding [ov] (getMethod ov m pl)
      callWith pos f first (backTo pos (starEach [] X.env)) (backToKw pos (keywordEach [] X.env))) := by rfl) : PE X (.Call (.Attribute o m apos) [] [] pos) (tMeth C m sp [] E ta tNil) := by
  obtain ⟨f, fd, F, M, hb⟩ := c.ex
  exact pe_meth0 ho cl M F hr hb .nil hx ht
end

/-! ### what the top has written -/
/-- the classes' addresses -/
structure Cs where
  M : Addr
  T : Addr
  H : Addr
  D : Addr
  C : Addr
structure Txt (K : PySem.W.Frag) (mg : Str → Option Value) (c : Cs) : Prop where
  g_PLACES : ∃ t, mg "PLACES" = some (.int 128 t)
  g_PAD_PLACE : ∃ t, mg "PAD_PLACE" = some (.int 127 t)
  g_MOST_DONE : ∃ t, mg "MOST_DONE" = some (.int 300 t)
  g_MARK_TIMES : ∃ t, mg "MARK_TIMES" = some (.int 31 t)
  g_MARK_MORE : ∃ t, mg "MARK_MORE" = some (.int 7 t)
  g_MARK_REST : ∃ t, mg "MARK_REST" = some (.int 65521 t)
  g_MOST_BYTES : ∃ t, mg "MOST_BYTES" = some (.int 128 t)
  g_MOST_FRAMES : ∃ t, mg "MOST_FRAMES" = some (.int 60 t)
  g_MOST_TAKES : ∃ t, mg "MOST_TAKES" = some (.int 12 t)
  n_len : mg "len" = none
  n_list : mg "list" = none
  n_all : mg "all" = none
  n_min : mg "min" = none
  n_range : mg "range" = none
  n_zip : mg "zip" = none
  n_enumerate : mg "enumerate" = none
  n_Exception : mg "Exception" = none
  clM : Cls K c.M
  noM_content : NoAttr K c.M "content"
  noM_a : NoAttr K c.M "a"
  noM_x : NoAttr K c.M "x"
  noM_place : NoAttr K c.M "place"
  noM_z : NoAttr K c.M "z"
  noM_c : NoAttr K c.M "c"
  i_Machine : InitAt K mg c.M "Machine" "Machine.__init__" s_Machine_init ["self", "loaded"]
  clT : Cls K c.T
  noT_parent : NoAttr K c.T "parent"
  noT_ahead : NoAttr K c.T "ahead"
  noT_pads : NoAttr K c.T "pads"
  noT_marks : NoAttr K c.T "marks"
  i_Take : InitAt K mg c.T "Take" "Take.__init__" s_Take_init ["self", "parent", "ahead", "pads", "marks"]
  clH : Cls K c.H
  noH_loaded : NoAttr K c.H "loaded"
  noH_takes : NoAttr K c.H "takes"
  noH_here : NoAttr K c.H "here"
  noH_played : NoAttr K c.H "played"
  noH_machine : NoAttr K c.H "machine"
  i_House : InitAt K mg c.H "House" "House.__init__" s_House_init ["self", "content"]
  clC : Cls K c.C
  noC_numbers : NoAttr K c.C "numbers"
  noC_at : NoAttr K c.C "at"
  i_Calls : InitAt K mg c.C "Calls" "Calls.__init__" s_Calls_init ["self", "numbers"]
  m_next_number : MethAt K c.C "next_number" "Calls.next_number" s_next_number ["self"]
  m_next_row : MethAt K c.C "next_row" "Calls.next_row" s_next_row ["self"]
  oxe : Err K c.D
  xf : XfC K c.D
  noNumber : PySem.W.findIn K (.ref c.D) "number" = some none
  gDenied : mg "Denied" = some (.ref c.D)
  eDenied : PySem.W.exmOne K (.ref c.D) (.ref c.D) = some true
  i_Denied : ∃ (f : Addr) (fd : FuncData), PySem.W.findIn K (.ref c.D) "__init__" = some (some (.ref f)) ∧ PySem.W.typeIn K (.ref f) = some (.type "function") ∧ Fun K "__init__" "Denied.__init__" s_Denied_init f fd ∧ Binds K fd ["self", "number"] []
  d_copied : DefAt K mg "copied" s_copied ["machine"]
  d_byte_at : DefAt K mg "byte_at" s_byte_at ["machine", "place"]
  d_set_byte : DefAt K mg "set_byte" s_set_byte ["machine", "place", "byte"]
  d_set_a : DefAt K mg "set_a" s_set_a ["machine", "n"]
  d_set_x : DefAt K mg "set_x" s_set_x ["machine", "n"]
  d_add_or_take : DefAt K mg "add_or_take" s_add_or_take ["machine", "which", "n"]
  d_move : DefAt K mg "move" s_move ["machine", "which", "n"]
  d_jumps : DefAt K mg "jumps" s_jumps ["machine", "which"]
  d_do_one : DefAt K mg "do_one" s_do_one ["machine"]
  d_run_frame : DefAt K mg "run_frame" s_run_frame ["machine", "pad"]
  d_as_numbers : DefAt K mg "as_numbers" s_as_numbers ["machine"]
  d_mark_of : DefAt K mg "mark_of" s_mark_of ["machine"]
  d_are_alike : DefAt K mg "are_alike" s_are_alike ["first", "second"]
  d_machine_ahead : DefAt K mg "machine_ahead" s_machine_ahead ["house", "take", "t"]
  d_go_to : DefAt K mg "go_to" s_go_to ["house", "here", "played"]
  d_play_on : DefAt K mg "play_on" s_play_on ["house", "many"]
  d_play_pad : DefAt K mg "play_pad" s_play_pad ["house", "pad"]
  d_first_difference : DefAt K mg "first_difference" s_first_difference ["first", "second"]
  d_first_unlike : DefAt K mg "first_unlike" s_first_unlike ["house", "first", "second"]
  d_count_free : DefAt K mg "count_free" s_count_free ["house", "t"]
  d_first_stray : DefAt K mg "first_stray" s_first_stray ["house", "take"]
  d_need : DefAt K mg "need" s_need ["holds", "number"]
  d_are_bytes : DefAt K mg "are_bytes" s_are_bytes ["numbers"]
  d_take_of : DefAt K mg "take_of" s_take_of ["house", "k"]
  d_where : DefAt K mg "where" s_where ["house"]
  d_need_room : DefAt K mg "need_room" s_need_room ["house", "here", "played", "pads"]
  d_play_all : DefAt K mg "play_all" s_play_all ["house", "pads"]
  d_do_begin : DefAt K mg "do_begin" s_do_begin ["content"]
  d_do_play : DefAt K mg "do_play" s_do_play ["house", "pads"]
  d_do_on : DefAt K mg "do_on" s_do_on ["house", "n"]
  d_do_go : DefAt K mg "do_go" s_do_go ["house", "k", "t"]
  d_do_takes : DefAt K mg "do_takes" s_do_takes ["house"]
  d_do_pads : DefAt K mg "do_pads" s_do_pads ["house", "k"]
  d_do_put : DefAt K mg "do_put" s_do_put ["house", "k", "a", "b"]
  d_need_frame : DefAt K mg "need_frame" s_need_frame ["house", "t"]
  d_do_cut : DefAt K mg "do_cut" s_do_cut ["house", "t"]
  d_do_parts : DefAt K mg "do_parts" s_do_parts ["house", "k", "other"]
  d_do_free : DefAt K mg "do_free" s_do_free ["house", "t"]
  d_do_patch : DefAt K mg "do_patch" s_do_patch ["house", "place", "byte"]
  d_do_strays : DefAt K mg "do_strays" s_do_strays ["house", "k"]
  d_call_of_one : DefAt K mg "call_of_one" s_call_of_one ["house", "call", "n"]
  d_answer_call : DefAt K mg "answer_call" s_answer_call ["house", "call", "reading"]
  d_answers : DefAt K mg "answers" s_answers ["calls"]

end Tk
-- the part TkMach
set_option maxRecDepth 100000
set_option maxHeartbeats 4000000
namespace Tk
open PySem PySem.Spec PyProof.Rows L2
open CsBase (Mach byteAt put inA inX opAt rests upTo frame frames loaded told mark)

/-! ### an instance's fields -/
theorem lk_here {k : Str} {v : V} {r : List (Str × V)} : List.lookup k ((k, v) :: r) = some v := by
  have e : (k == k) = true := beq_self_eq_true k
  simp only [List.lookup, e]
theorem lk_past {k g : Str} {v : V} {r : List (Str × V)} (h : (k == g) = false) : List.lookup k ((g, v) :: r) = List.lookup k r := by
  simp only [List.lookup, h]
theorem put_here {f : Str} {v x : V} {r : List (Str × V)} : putF f v ((f, x) :: r) = (f, v) :: r := if_pos rfl
theorem put_past {f g : Str} {v x : V} {r : List (Str × V)} (h : ¬ g = f) : putF f v ((g, x) :: r) = (g, x) :: putF f v r := if_neg h
theorem put_new {f : Str} {v : V} : putF f v [] = [(f, v)] := rfl
theorem itT {c : Bool} {A B : Prop} (hc : c = true) (h : A) : if c = true then A else B := by
  rw [if_pos hc]; exact h
theorem itF {c : Bool} {A B : Prop} (hc : c = false) (h : B) : if c = true then A else B := by
  rw [hc, if_neg Bool.false_ne_true]; exact h
theorem few6 : 6 < 1000 := by decide
theorem few5 : 5 < 1000 := by decide
theorem few4 : 4 < 1000 := by decide
def mF (mc : Addr) (M : Mach) : List (Str × V) := [("content", .ref mc), ("a", .int (M.a : Int)), ("x", .int (M.x : Int)), ("place", .int (M.pc : Int)), ("z", .bl M.z), ("c", .bl M.c)]
theorem mF_content (mc : Addr) (M : Mach) : (mF mc M).lookup ("content" : Str) = some (.ref mc) := lk_here
theorem mF_a (mc : Addr) (M : Mach) : (mF mc M).lookup ("a" : Str) = some (.int (M.a : Int)) := (lk_past (by decide +kernel)).trans lk_here
theorem mF_x (mc : Addr) (M : Mach) : (mF mc M).lookup ("x" : Str) = some (.int (M.x : Int)) := (lk_past (by decide +kernel)).trans ((lk_past (by decide +kernel)).trans lk_here)
theorem mF_place (mc : Addr) (M : Mach) : (mF mc M).lookup ("place" : Str) = some (.int (M.pc : Int)) := (lk_past (by decide +kernel)).trans ((lk_past (by decide +kernel)).trans ((lk_past (by decide +kernel)).trans lk_here))
theorem mF_z (mc : Addr) (M : Mach) : (mF mc M).lookup ("z" : Str) = some (.bl M.z) := (lk_past (by decide +kernel)).trans ((lk_past (by decide +kernel)).trans ((lk_past (by decide +kernel)).trans ((lk_past (by decide +kernel)).trans lk_here)))
theorem mF_c (mc : Addr) (M : Mach) : (mF mc M).lookup ("c" : Str) = some (.bl M.c) := (lk_past (by decide +kernel)).trans ((lk_past (by decide +kernel)).trans ((lk_past (by decide +kernel)).trans ((lk_past (by decide +kernel)).trans ((lk_past (by decide +kernel)).trans lk_here))))
theorem mF_put_a (mc : Addr) (M : Mach) (k : Nat) : putF "a" (.int (k : Int)) (mF mc M) = mF mc { M with a := k } := (put_past (by decide +kernel)).trans (congrArg _ put_here)
theorem mF_put_x (mc : Addr) (M : Mach) (k : Nat) : putF "x" (.int (k : Int)) (mF mc M) = mF mc { M with x := k } := (put_past (by decide +kernel)).trans (congrArg _ ((put_past (by decide +kernel)).trans (congrArg _ put_here)))
theorem mF_put_place (mc : Addr) (M : Mach) (k : Nat) : putF "place" (.int (k : Int)) (mF mc M) = mF mc { M with pc := k } := (put_past (by decide +kernel)).trans (congrArg _ ((put_past (by decide +kernel)).trans (congrArg _ ((put_past (by decide +kernel)).trans (congrArg _ put_here)))))
theorem mF_put_z (mc : Addr) (M : Mach) (b : Bool) : putF "z" (.bl b) (mF mc M) = mF mc { M with z := b } := (put_past (by decide +kernel)).trans (congrArg _ ((put_past (by decide +kernel)).trans (congrArg _ ((put_past (by decide +kernel)).trans (congrArg _ ((put_past (by decide +kernel)).trans (congrArg _ put_here)))))))
theorem mF_put_c (mc : Addr) (M : Mach) (b : Bool) : putF "c" (.bl b) (mF mc M) = mF mc { M with c := b } := (put_past (by decide +kernel)).trans (congrArg _ ((put_past (by decide +kernel)).trans (congrArg _ ((put_past (by decide +kernel)).trans (congrArg _ ((put_past (by decide +kernel)).trans (congrArg _ ((put_past (by decide +kernel)).trans (congrArg _ put_here)))))))))
/-! ### the machine in the heap -/
def vN (l : List Nat) : List V := l.map fun (n : Nat) => V.int (n : Int)
theorem vN_get {l : List Nat} {i n : Nat} (h : l[i]? = some n) : (vN l)[i]? = some (V.int (n : Int)) := by
  unfold vN; rw [List.getElem?_map, h]; rfl
theorem vN_len (l : List Nat) : (vN l).length = l.length := List.length_map ..
theorem vN_set (l : List Nat) (i n : Nat) : (vN l).set i (V.int (n : Int)) = vN (l.set i n) := by
  unfold vN; rw [List.map_set]
theorem vN_app (l r : List Nat) : vN (l ++ r) = vN l ++ vN r := List.map_append
theorem vN_ints (l : List Nat) : vN l = (intsN l).map V.int := by
  unfold vN intsN; rw [List.map_map]; rfl
structure MachAt (c : Cs) (H : Hp) (m mc : Addr) (M : Mach) : Prop where
  ins : ∃ dx, H m = some (.ins c.M dx (mF mc M))
  lst : H mc = some (.lst (vN M.mem.toList))
  wf : Wf M
/-- all but these two stands -/
def Off (m mc : Addr) (H H' : Hp) : Prop := ∀ b o, H b = some o → b ≠ m → b ≠ mc → H' b = some o
theorem Off.refl (m mc : Addr) (H : Hp) : Off m mc H H := fun _ _ h _ _ => h
theorem Off.trans {m mc : Addr} {H H1 H2 : Hp} (a : Off m mc H H1) (b : Off m mc H1 H2) : Off m mc H H2 := fun x o h h1 h2 => b x o (a x o h h1 h2) h1 h2
theorem Off.same {m mc : Addr} {H H1 : Hp} (a : Same H H1) : Off m mc H H1 := fun x o h _ _ => a x o h
theorem Off.upd1 {m mc : Addr} {H : Hp} {o : HO} : Off m mc H (upd H m o) := fun x u h h1 _ => by rw [upd_ne h1]; exact h
theorem Off.upd2 {m mc : Addr} {H : Hp} {o : HO} : Off m mc H (upd H mc o) := fun x u h _ h2 => by rw [upd_ne h2]; exact h
theorem MachAt.ne {c : Cs} {H : Hp} {m mc : Addr} {M : Mach} (h : MachAt c H m mc M) : m ≠ mc := by
  obtain ⟨dx, e⟩ := h.ins
  exact ne_of e h.lst (by intro z; cases z)
theorem MachAt.same {c : Cs} {H H' : Hp} {m mc : Addr} {M : Mach} (h : MachAt c H m mc M) (s : Same H H') : MachAt c H' m mc M := by
  obtain ⟨dx, e⟩ := h.ins
  exact ⟨⟨dx, s _ _ e⟩, s _ _ h.lst, h.wf⟩
theorem MachAt.put1 {c : Cs} {H : Hp} {m mc dx : Addr} {M M' : Mach} {fs : List (Str × V)} (h : MachAt c H m mc M) (ef : fs = mF mc M') (em : M'.mem = M.mem) (w : Wf M') : MachAt c (upd H m (.ins c.M dx fs)) m mc M' :=
  ⟨⟨dx, by rw [upd_same, ef]⟩, by rw [upd_ne h.ne.symm, em]; exact h.lst, w⟩
theorem MachAt.upd2 {c : Cs} {H : Hp} {m mc : Addr} {M : Mach} (h : MachAt c H m mc M) (p v : Nat) (hv : v < 256) : MachAt c (upd H mc (.lst ((vN M.mem.toList).set (p % 128) (V.int (v : Int))))) m mc (put M p v) := by
  obtain ⟨dx, e⟩ := h.ins
  refine ⟨⟨dx, ?_⟩, ?_, h.wf.put p v⟩
  · rw [upd_ne h.ne]; exact e
  · rw [upd_same, put_mem, Nat.mod_eq_of_lt hv, vN_set]

/-- on with any heap of which just this is known -/
theorem onM {c : Cs} {m mc : Addr} {M : Mach} {R : Hp → Prop} {H H1 : Hp} (h1 : MachAt c H1 m mc M) (o : Off m mc H H1) (k : ∀ H1, MachAt c H1 m mc M → Off m mc H H1 → R H1) : R H1 := k _ h1 o
theorem dec_int (i j : Nat) : decide (V.int (i : Int) = V.int (j : Int)) = (i == j) := by
  by_cases z : i = j
  · subst z; simp
  · rw [decide_eq_false (by intro q; apply z; injection q with q; omega)]; simp [z]

/-! ### what the machine's defs reckon -/
def setA (M : Mach) (k : Nat) : Mach := { M with a := k, z := k == 0 }
def setX (M : Mach) (k : Nat) : Mach := { M with x := k, z := k == 0 }
theorem inA_eq (M : Mach) (v : Nat) : inA M v = setA M (v % 256) := rfl
theorem inX_eq (M : Mach) (v : Nat) : inX M v = setX M (v % 256) := rfl
theorem Wf.setA {M : Mach} (w : Wf M) {k : Nat} (h : k < 256) : Wf (setA M k) := ⟨w.size, w.bytes, h⟩
theorem Wf.setX {M : Mach} (w : Wf M) (k : Nat) : Wf (setX M k) := ⟨w.size, w.bytes, w.a⟩
def mov (M : Mach) (w n : Nat) : Mach := match w with
  | 1 => inA M n
  | 2 => inA M (byteAt M n)
  | 3 => put M n M.a
  | 4 => inA M (byteAt M (n + M.x))
  | 5 => put M (n + M.x) M.a
  | 6 => inX M n
  | _ => inX M (M.x + n)
def alu (M : Mach) (w n : Nat) : Mach := match w with
  | 8 => { inA M (M.a + byteAt M n) with c := decide (256 ≤ M.a + byteAt M n) }
  | 9 => { inA M (M.a + 256 - byteAt M n) with c := decide (M.a + 256 - byteAt M n < 256) }
  | 10 => inA M (M.a &&& byteAt M n)
  | _ => inA M (M.a ^^^ byteAt M n)
def jmp (M : Mach) (w : Nat) : Bool := match w with
  | 12 => true
  | 13 => M.z
  | 14 => !M.z
  | _ => M.c
def follow (M : Mach) : Nat := (M.pc + 2) % 128
def stepTo (M : Mach) (w n : Nat) : Mach :=
    (match w with
      | 1 => inA { M with pc := follow M } n
      | 2 => inA { M with pc := follow M } (byteAt M n)
      | 3 => put { M with pc := follow M } n M.a
      | 4 => inA { M with pc := follow M } (byteAt M (n + M.x))
      | 5 => put { M with pc := follow M } (n + M.x) M.a
      | 6 => inX { M with pc := follow M } n
      | 7 => inX { M with pc := follow M } (M.x + n)
      | 8 => { inA { M with pc := follow M } (M.a + byteAt M n) with c := decide (256 ≤ M.a + byteAt M n) }
      | 9 => { inA { M with pc := follow M } (M.a + 256 - byteAt M n) with c := decide (M.a + 256 - byteAt M n < 256) }
      | 10 => inA { M with pc := follow M } (M.a &&& byteAt M n)
      | 11 => inA { M with pc := follow M } (M.a ^^^ byteAt M n)
      | 12 => { M with pc := n % 128 }
      | 13 => if M.z = true then { M with pc := n % 128 } else { M with pc := follow M }
      | 14 => if M.z = false then { M with pc := n % 128 } else { M with pc := follow M }
      | 15 => if M.c = true then { M with pc := n % 128 } else { M with pc := follow M }
      | _ => { M with pc := follow M })
theorem step_eq (M : Mach) (w n : Nat) (ho : opAt M = (w, n)) : CsBase.step M = stepTo M w n := by
  show stepTo M (opAt M).1 (opAt M).2 = _
  rw [ho]
theorem step_rest {M : Mach} {n : Nat} (ho : opAt M = (0, n)) : CsBase.step M = { M with pc := follow M } := step_eq M 0 n ho
theorem step_mov {M : Mach} {w n : Nat} (ho : opAt M = (w, n)) (h1 : 1 ≤ w) (h2 : w ≤ 7) : CsBase.step M = { mov M w n with pc := follow M } := by
  rw [step_eq M w n ho]
  have : w = 1 ∨ w = 2 ∨ w = 3 ∨ w = 4 ∨ w = 5 ∨ w = 6 ∨ w = 7 := by omega
  rcases this with rfl | rfl | rfl | rfl | rfl | rfl | rfl <;> rfl
theorem step_alu {M : Mach} {w n : Nat} (ho : opAt M = (w, n)) (h1 : 8 ≤ w) (h2 : w ≤ 11) : CsBase.step M = { alu M w n with pc := follow M } := by
  rw [step_eq M w n ho]
  have : w = 8 ∨ w = 9 ∨ w = 10 ∨ w = 11 := by omega
  rcases this with rfl | rfl | rfl | rfl <;> rfl
theorem step_jmp {M : Mach} {w n : Nat} (ho : opAt M = (w, n)) (h1 : 12 ≤ w) (h2 : w < 16) : CsBase.step M = { M with pc := if jmp M w = true then n % 128 else follow M } := by
  rw [step_eq M w n ho]
  have : w = 12 ∨ w = 13 ∨ w = 14 ∨ w = 15 := by omega
  rcases this with rfl | rfl | rfl | rfl
  · rfl
  · show (if M.z = true then _ else _) = ({ M with pc := if M.z = true then n % 128 else follow M } : Mach)
    split <;> rfl
  · show (if M.z = false then _ else _) = ({ M with pc := if (!M.z) = true then n % 128 else follow M } : Mach)
    cases M.z <;> rfl
  · show (if M.c = true then _ else _) = ({ M with pc := if M.c = true then n % 128 else follow M } : Mach)
    split <;> rfl
theorem Wf.mov {M : Mach} (w : Wf M) (k n : Nat) : Wf (mov M k n) := by
  unfold Tk.mov
  split
  · exact w.inA _
  · exact w.inA _
  · exact w.put _ _
  · exact w.inA _
  · exact w.put _ _
  · exact w.inX _
  · exact w.inX _
theorem Wf.alu {M : Mach} (w : Wf M) (k n : Nat) : Wf (alu M k n) := by
  unfold Tk.alu
  split
  · exact (w.inA _).c _
  · exact (w.inA _).c _
  · exact w.inA _
  · exact w.inA _
theorem byte_item {M : Mach} (w : Wf M) (p : Nat) : M.mem.toList[p % 128]? = some (byteAt M p) := by
  have hl : p % 128 < M.mem.toList.length := by rw [Array.length_toList, w.size]; exact Nat.mod_lt _ (by decide)
  rw [byteAt_toList, List.getD_eq_getElem?_getD, List.getElem?_eq_getElem hl]
  rfl
theorem at128 {M : Mach} (w : Wf M) (p : Nat) : atI (vN M.mem.toList) ((p : Int) % 128) = some (V.int (byteAt M p : Int)) :=
  at_of (by omega) (vN_get (byte_item w p))
theorem ix128 {M : Mach} (w : Wf M) (p : Nat) : ixN (vN M.mem.toList).length ((p : Int) % 128) = some (p % 128) := by
  rw [vN_len, Array.length_toList, w.size]
  unfold ixN
  have h1 : (0 : Int) ≤ (p : Int) % 128 := by omega
  have h2 : (p : Int) % 128 < (128 : Nat) := by omega
  rw [if_pos h1, if_pos h2]
  congr 1

/-! ### the promises -/
def spByteAt (c : Cs) : Sp := fun vs H Q _ => ∃ (m mc : Addr) (M : Mach) (p : Nat), vs = [.ref m, .int (p : Int)] ∧ MachAt c H m mc M ∧ Q (.int (byteAt M p : Int)) H
def spSetByte (c : Cs) : Sp := fun vs H Q _ => ∃ (m mc : Addr) (M : Mach) (p v : Nat), vs = [.ref m, .int (p : Int), .int (v : Int)] ∧ MachAt c H m mc M ∧ v < 256 ∧ ∀ H', MachAt c H' m mc (put M p v) → Off m mc H H' → Q .non H'
def spSetA (c : Cs) : Sp := fun vs H Q _ => ∃ (m mc : Addr) (M : Mach) (v : Int) (k : Nat), vs = [.ref m, .int v] ∧ MachAt c H m mc M ∧ v % 256 = (k : Int) ∧ ∀ H', MachAt c H' m mc (setA M k) → Off m mc H H' → Q .non H'
def spSetX (c : Cs) : Sp := fun vs H Q _ => ∃ (m mc : Addr) (M : Mach) (v : Int) (k : Nat), vs = [.ref m, .int v] ∧ MachAt c H m mc M ∧ v % 256 = (k : Int) ∧ ∀ H', MachAt c H' m mc (setX M k) → Off m mc H H' → Q .non H'
def spAlu (c : Cs) : Sp := fun vs H Q _ => ∃ (m mc : Addr) (M : Mach) (w n : Nat), vs = [.ref m, .int (w : Int), .int (n : Int)] ∧ MachAt c H m mc M ∧ 8 ≤ w ∧ w ≤ 11 ∧ ∀ H', MachAt c H' m mc (alu M w n) → Off m mc H H' → Q .non H'
def spMove (c : Cs) : Sp := fun vs H Q _ => ∃ (m mc : Addr) (M : Mach) (w n : Nat), vs = [.ref m, .int (w : Int), .int (n : Int)] ∧ MachAt c H m mc M ∧ 1 ≤ w ∧ w ≤ 7 ∧ ∀ H', MachAt c H' m mc (mov M w n) → Off m mc H H' → Q .non H'
def spJumps (c : Cs) : Sp := fun vs H Q _ => ∃ (m mc : Addr) (M : Mach) (w : Nat), vs = [.ref m, .int (w : Int)] ∧ MachAt c H m mc M ∧ 12 ≤ w ∧ w < 16 ∧ Q (.bl (jmp M w)) H
def spDoOne (c : Cs) : Sp := fun vs H Q _ => ∃ (m mc : Addr) (M : Mach), vs = [.ref m] ∧ MachAt c H m mc M ∧ ∀ H', MachAt c H' m mc (CsBase.step M) → Off m mc H H' → Q (.bl (rests M)) H'
def spFrame (c : Cs) : Sp := fun vs H Q _ => ∃ (m mc : Addr) (M : Mach) (v : Nat), vs = [.ref m, .int (v : Int)] ∧ MachAt c H m mc M ∧ v < 256 ∧ ∀ H', MachAt c H' m mc (frame M v) → Off m mc H H' → Q .non H'
section
variable {P : Program} {w : World} {K : PySem.W.Frag} {mg : Str → Option Value} {base : Heap} {c : Cs}
theorem c_byte_at (T : Txt K mg c) : Cal P w K mg base CX0 1 "byte_at" ["machine", "place"] (spByteAt c) := by
  refine T.d_byte_at.ok sc_byte_at (fun vs H Q E h => ?_) (fun q f cdv A outer s H vs Q E hr h => ⟨_, (pss_one (ps_ret (pe_ix ix_list (pe_fld (pv 0) rfl) (pe_op op_mod (pv 1) (pc_int rfl T.g_PLACES)) (fun _ _ => rfl)))), ?_⟩)
  · obtain ⟨m, mc, M, p, rfl, _⟩ := h; rfl
  · obtain ⟨m, mc, M, p, rfl, hM, k⟩ := h
    obtain ⟨dx, hi⟩ := hM.ins
    refine ⟨_, rfl, m, c.M, dx, _, _, rfl, hi, T.clM, T.noM_content, mF_content _ _, _, rfl, _, _, rfl, rfl, (by show (0 : Int) < 128; decide), mc, _, _, _, rfl, rfl, SqL.of hM.lst, at128 hM.wf p, k⟩
theorem c_set_byte (T : Txt K mg c) : Cal P w K mg base CX0 1 "set_byte" ["machine", "place", "byte"] (spSetByte c) := by
  refine T.d_set_byte.ok sc_set_byte (fun vs H Q E h => ?_) (fun q f cdv A outer s H vs Q E hr h => ⟨_, (pss_one (ps_asg (pv 2) (pg_sub (pe_fld (pv 0) rfl) (pe_op op_mod (pv 1) (pc_int rfl T.g_PLACES)) set_list))), ?_⟩)
  · obtain ⟨m, mc, M, p, v, rfl, _⟩ := h; rfl
  · obtain ⟨m, mc, M, p, v, rfl, hM, hv, k⟩ := h
    obtain ⟨dx, hi⟩ := hM.ins
    refine ⟨_, rfl, _, rfl, m, c.M, dx, _, _, rfl, hi, T.clM, T.noM_content, mF_content _ _, _, rfl, _, _, rfl, rfl, (by show (0 : Int) < 128; decide), mc, _, _, _, rfl, rfl, hM.lst, ix128 hM.wf p, ?_⟩
    exact k _ (hM.upd2 p v hv) Off.upd2
theorem c_set_a (T : Txt K mg c) : Cal P w K mg base CX0 1 "set_a" ["machine", "n"] (spSetA c) := by
  refine T.d_set_a.ok sc_set_a (fun vs H Q E h => ?_) (fun q f cdv A outer s H vs Q E hr h => ⟨_, (pss_cons (ps_fld (pv 0) (pe_op op_mod (pv 1) pe_int) rfl) (pss_one (ps_fld (pv 0) (pe_cmpR op_eq (pe_fld (pv 0) rfl) pe_int (nomark _)) rfl))), ?_⟩)
  · obtain ⟨m, mc, M, v, n, rfl, _⟩ := h; rfl
  · obtain ⟨m, mc, M, v, n, rfl, hM, hv, k⟩ := h
    obtain ⟨dx, hi⟩ := hM.ins
    have hn : n < 256 := by omega
    refine ⟨_, rfl, _, _, rfl, rfl, (by show (0 : Int) < 256; decide), _, rfl, m, c.M, dx, _, rfl, hi, T.clM, T.noM_a, few6, ?_⟩
    refine onM (M := { M with a := n }) (hM.put1 (by show putF _ (V.int (v % 256)) _ = _; rw [hv]; exact mF_put_a _ _ _) rfl ⟨hM.wf.size, hM.wf.bytes, hn⟩) Off.upd1 fun H1 h1 o1 => ?_
    obtain ⟨dx, hi⟩ := h1.ins
    refine ⟨_, rfl, m, c.M, dx, _, _, rfl, hi, T.clM, T.noM_a, mF_a _ _, rfl, _, rfl, m, c.M, dx, _, rfl, hi, T.clM, T.noM_z, few6, ?_⟩
    exact k _ (h1.put1 (M' := setA M n) (by show putF _ (V.bl (decide (V.int (n : Int) = V.int ((0 : Nat) : Int)))) _ = _; rw [dec_int]; exact mF_put_z _ _ _) rfl (hM.wf.setA hn)) (o1.trans Off.upd1)
theorem c_set_x (T : Txt K mg c) : Cal P w K mg base CX0 1 "set_x" ["machine", "n"] (spSetX c) := by
  refine T.d_set_x.ok sc_set_x (fun vs H Q E h => ?_) (fun q f cdv A outer s H vs Q E hr h => ⟨_, (pss_cons (ps_fld (pv 0) (pe_op op_mod (pv 1) pe_int) rfl) (pss_one (ps_fld (pv 0) (pe_cmpR op_eq (pe_fld (pv 0) rfl) pe_int (nomark _)) rfl))), ?_⟩)
  · obtain ⟨m, mc, M, v, n, rfl, _⟩ := h; rfl
  · obtain ⟨m, mc, M, v, n, rfl, hM, hv, k⟩ := h
    obtain ⟨dx, hi⟩ := hM.ins
    refine ⟨_, rfl, _, _, rfl, rfl, (by show (0 : Int) < 256; decide), _, rfl, m, c.M, dx, _, rfl, hi, T.clM, T.noM_x, few6, ?_⟩
    refine onM (M := { M with x := n }) (hM.put1 (by show putF _ (V.int (v % 256)) _ = _; rw [hv]; exact mF_put_x _ _ _) rfl ⟨hM.wf.size, hM.wf.bytes, hM.wf.a⟩) Off.upd1 fun H1 h1 o1 => ?_
    obtain ⟨dx, hi⟩ := h1.ins
    refine ⟨_, rfl, m, c.M, dx, _, _, rfl, hi, T.clM, T.noM_x, mF_x _ _, rfl, _, rfl, m, c.M, dx, _, rfl, hi, T.clM, T.noM_z, few6, ?_⟩
    exact k _ (h1.put1 (M' := setX M n) (by show putF _ (V.bl (decide (V.int (n : Int) = V.int ((0 : Nat) : Int)))) _ = _; rw [dec_int]; exact mF_put_z _ _ _) rfl (hM.wf.setX n)) (o1.trans Off.upd1)
theorem c_add_or_take (T : Txt K mg c) : Cal P w K mg base CX0 2 "add_or_take" ["machine", "which", "n"] (spAlu c) := by
  refine T.d_add_or_take.ok sc_add_or_take (fun vs H Q E h => ?_) (fun q f cdv A outer s H vs Q E hr h => ⟨_, (pss_cons (ps_set (i := 3) sc_add_or_take.nd rfl (Or.inl rfl) (pc_call (c_byte_at T) (hr.mono (by decide)) (by rfl) pass0 (pa_cons (pv 0) (pa_cons (pv 2) pa_nil)))) (pss_one (ps_if (pt_cmpR op_eq (pv 1) pe_int (nomark _)) (pss_cons (ps_fld (pv 0) (pe_cmpR op_ge (pe_op op_add (pe_fld (pv 0) rfl) (pv 3)) pe_int (nomark _)) rfl) (pss_one (ps_expr (pc_call (c_set_a T) (hr.mono (by decide)) (by rfl) pass0 (pa_cons (pv 0) (pa_cons (pe_op op_add (pe_fld (pv 0) rfl) (pv 3)) pa_nil)))))) (pss_one (ps_if (pt_cmpR op_eq (pv 1) pe_int (nomark _)) (pss_cons (ps_fld (pv 0) (pe_cmpR op_gt (pv 3) (pe_fld (pv 0) rfl) (nomark _)) rfl) (pss_one (ps_expr (pc_call (c_set_a T) (hr.mono (by decide)) (by rfl) pass0 (pa_cons (pv 0) (pa_cons (pe_op op_sub (pe_fld (pv 0) rfl) (pv 3)) pa_nil)))))) (pss_one (ps_if (pt_cmpR op_eq (pv 1) pe_int (nomark _)) (pss_one (ps_expr (pc_call (c_set_a T) (hr.mono (by decide)) (by rfl) pass0 (pa_cons (pv 0) (pa_cons (pe_op op_and (pe_fld (pv 0) rfl) (pv 3)) pa_nil))))) (pss_one (ps_expr (pc_call (c_set_a T) (hr.mono (by decide)) (by rfl) pass0 (pa_cons (pv 0) (pa_cons (pe_op op_xor (pe_fld (pv 0) rfl) (pv 3)) pa_nil)))))))))))), ?_⟩)
  · obtain ⟨m, mc, M, z, n, rfl, _⟩ := h; rfl
  · obtain ⟨m, mc, M, z, n, rfl, hM, h1, h2, k⟩ := h
    have hb := hM.wf.byte n
    have ha := hM.wf.a
    refine ⟨_, rfl, _, rfl, m, mc, M, n, rfl, hM, ?_⟩
    obtain ⟨dx, hi⟩ := hM.ins
    have : z = 8 ∨ z = 9 ∨ z = 10 ∨ z = 11 := by omega
    rcases this with rfl | rfl | rfl | rfl
    · refine ⟨_, rfl, rfl, _, rfl, itT (by decide) ?_⟩
      refine ⟨_, rfl, m, c.M, dx, _, _, rfl, hi, T.clM, T.noM_a, mF_a _ _, _, rfl, _, _, rfl, rfl, _, _, rfl, rfl, _, rfl, m, c.M, dx, _, rfl, hi, T.clM, T.noM_c, few6, ?_⟩
      refine onM (M := { M with c := decide (256 ≤ M.a + byteAt M n) }) (hM.put1 (by
        show putF _ (V.bl (decide ((256 : Int) ≤ (M.a : Int) + (byteAt M n : Int)))) _ = _
        rw [show decide ((256 : Int) ≤ (M.a : Int) + (byteAt M n : Int)) = decide (256 ≤ M.a + byteAt M n) from decide_eq_decide.mpr (by omega)]
        exact mF_put_c _ _ _) rfl (hM.wf.c _)) Off.upd1 fun H1 hM1 o1 => ?_
      obtain ⟨dx1, hi1⟩ := hM1.ins
      refine ⟨_, rfl, _, rfl, m, c.M, dx1, _, _, rfl, hi1, T.clM, T.noM_a, mF_a _ _, _, rfl, _, _, rfl, rfl, m, mc, _, _, (M.a + byteAt M n) % 256, rfl, hM1, (by show ((M.a : Int) + (byteAt M n : Int)) % 256 = _; omega), fun H2 hM2 o2 => ?_⟩
      exact k _ hM2 (o1.trans o2)
    · refine ⟨_, rfl, rfl, _, rfl, itF (by decide) ⟨_, rfl, rfl, _, rfl, itT (by decide) ?_⟩⟩
      refine ⟨_, rfl, _, rfl, m, c.M, dx, _, _, rfl, hi, T.clM, T.noM_a, mF_a _ _, _, _, rfl, rfl, _, rfl, m, c.M, dx, _, rfl, hi, T.clM, T.noM_c, few6, ?_⟩
      refine onM (M := { M with c := decide (M.a + 256 - byteAt M n < 256) }) (hM.put1 (by
        show putF _ (V.bl (decide ((M.a : Int) < (byteAt M n : Int)))) _ = _
        rw [show decide ((M.a : Int) < (byteAt M n : Int)) = decide (M.a + 256 - byteAt M n < 256) from decide_eq_decide.mpr (by omega)]
        exact mF_put_c _ _ _) rfl (hM.wf.c _)) Off.upd1 fun H1 hM1 o1 => ?_
      obtain ⟨dx1, hi1⟩ := hM1.ins
      refine ⟨_, rfl, _, rfl, m, c.M, dx1, _, _, rfl, hi1, T.clM, T.noM_a, mF_a _ _, _, rfl, _, _, rfl, rfl, m, mc, _, _, (M.a + 256 - byteAt M n) % 256, rfl, hM1, (by show ((M.a : Int) - (byteAt M n : Int)) % 256 = _; omega), fun H2 hM2 o2 => ?_⟩
      exact k _ hM2 (o1.trans o2)
    · refine ⟨_, rfl, rfl, _, rfl, itF (by decide) ⟨_, rfl, rfl, _, rfl, itF (by decide) ⟨_, rfl, rfl, _, rfl, itT (by decide) ?_⟩⟩⟩
      refine ⟨_, rfl, _, rfl, m, c.M, dx, _, _, rfl, hi, T.clM, T.noM_a, mF_a _ _, _, rfl, _, _, rfl, rfl, m, mc, _, _, (M.a &&& byteAt M n) % 256, rfl, hM, (by
        show Builtin.bitAnd (M.a : Int) (byteAt M n : Int) % 256 = _
        rw [bitAnd_pp (by omega) (by omega), Int.toNat_natCast, Int.toNat_natCast]; omega), fun H2 hM2 o2 => ?_⟩
      exact k _ hM2 o2
    · refine ⟨_, rfl, rfl, _, rfl, itF (by decide) ⟨_, rfl, rfl, _, rfl, itF (by decide) ⟨_, rfl, rfl, _, rfl, itF (by decide) ?_⟩⟩⟩
      refine ⟨_, rfl, _, rfl, m, c.M, dx, _, _, rfl, hi, T.clM, T.noM_a, mF_a _ _, _, rfl, _, _, rfl, rfl, m, mc, _, _, (M.a ^^^ byteAt M n) % 256, rfl, hM, (by
        show Builtin.bitXor (M.a : Int) (byteAt M n : Int) % 256 = _
        rw [Bits.bitXor_pp (by omega) (by omega), Int.toNat_natCast, Int.toNat_natCast]; omega), fun H2 hM2 o2 => ?_⟩
      exact k _ hM2 o2
theorem c_move (T : Txt K mg c) : Cal P w K mg base CX0 2 "move" ["machine", "which", "n"] (spMove c) := by
  refine T.d_move.ok sc_move (fun vs H Q E h => ?_) (fun q f cdv A outer s H vs Q E hr h => ⟨_, (pss_one (ps_if (pt_cmpR op_eq (pv 1) pe_int (nomark _)) (pss_one (ps_expr (pc_call (c_set_a T) (hr.mono (by decide)) (by rfl) pass0 (pa_cons (pv 0) (pa_cons (pv 2) pa_nil))))) (pss_one (ps_if (pt_cmpR op_eq (pv 1) pe_int (nomark _)) (pss_one (ps_expr (pc_call (c_set_a T) (hr.mono (by decide)) (by rfl) pass0 (pa_cons (pv 0) (pa_cons (pc_call (c_byte_at T) (hr.mono (by decide)) (by rfl) pass0 (pa_cons (pv 0) (pa_cons (pv 2) pa_nil))) pa_nil))))) (pss_one (ps_if (pt_cmpR op_eq (pv 1) pe_int (nomark _)) (pss_one (ps_expr (pc_call (c_set_byte T) (hr.mono (by decide)) (by rfl) pass0 (pa_cons (pv 0) (pa_cons (pv 2) (pa_cons (pe_fld (pv 0) rfl) pa_nil)))))) (pss_one (ps_if (pt_cmpR op_eq (pv 1) pe_int (nomark _)) (pss_one (ps_expr (pc_call (c_set_a T) (hr.mono (by decide)) (by rfl) pass0 (pa_cons (pv 0) (pa_cons (pc_call (c_byte_at T) (hr.mono (by decide)) (by rfl) pass0 (pa_cons (pv 0) (pa_cons (pe_op op_add (pv 2) (pe_fld (pv 0) rfl)) pa_nil))) pa_nil))))) (pss_one (ps_if (pt_cmpR op_eq (pv 1) pe_int (nomark _)) (pss_one (ps_expr (pc_call (c_set_byte T) (hr.mono (by decide)) (by rfl) pass0 (pa_cons (pv 0) (pa_cons (pe_op op_add (pv 2) (pe_fld (pv 0) rfl)) (pa_cons (pe_fld (pv 0) rfl) pa_nil)))))) (pss_one (ps_if (pt_cmpR op_eq (pv 1) pe_int (nomark _)) (pss_one (ps_expr (pc_call (c_set_x T) (hr.mono (by decide)) (by rfl) pass0 (pa_cons (pv 0) (pa_cons (pv 2) pa_nil))))) (pss_one (ps_expr (pc_call (c_set_x T) (hr.mono (by decide)) (by rfl) pass0 (pa_cons (pv 0) (pa_cons (pe_op op_add (pe_fld (pv 0) rfl) (pv 2)) pa_nil))))))))))))))))), ?_⟩)
  · obtain ⟨m, mc, M, z, n, rfl, _⟩ := h; rfl
  · obtain ⟨m, mc, M, z, n, rfl, hM, h1, h2, k⟩ := h
    have ha := hM.wf.a
    obtain ⟨dx, hi⟩ := hM.ins
    have : z = 1 ∨ z = 2 ∨ z = 3 ∨ z = 4 ∨ z = 5 ∨ z = 6 ∨ z = 7 := by omega
    rcases this with rfl | rfl | rfl | rfl | rfl | rfl | rfl
    · refine ⟨_, rfl, rfl, _, rfl, itT (by decide) ?_⟩
      exact ⟨_, rfl, _, rfl, m, mc, _, _, n % 256, rfl, hM, (by show (n : Int) % 256 = _; omega), fun H2 hM2 o2 => k _ hM2 o2⟩
    · refine ⟨_, rfl, rfl, _, rfl, itF (by decide) ⟨_, rfl, rfl, _, rfl, itT (by decide) ?_⟩⟩
      exact ⟨_, rfl, _, rfl, _, rfl, m, mc, M, n, rfl, hM, m, mc, _, _, byteAt M n % 256, rfl, hM, (by show (byteAt M n : Int) % 256 = _; omega), fun H2 hM2 o2 => k _ hM2 o2⟩
    · refine ⟨_, rfl, rfl, _, rfl, itF (by decide) ⟨_, rfl, rfl, _, rfl, itF (by decide) ⟨_, rfl, rfl, _, rfl, itT (by decide) ?_⟩⟩⟩
      exact ⟨_, rfl, _, rfl, _, rfl, m, c.M, dx, _, _, rfl, hi, T.clM, T.noM_a, mF_a _ _, m, mc, M, n, M.a, rfl, hM, ha, fun H2 hM2 o2 => k _ hM2 o2⟩
    · refine ⟨_, rfl, rfl, _, rfl, itF (by decide) ⟨_, rfl, rfl, _, rfl, itF (by decide) ⟨_, rfl, rfl, _, rfl, itF (by decide) ⟨_, rfl, rfl, _, rfl, itT (by decide) ?_⟩⟩⟩⟩
      exact ⟨_, rfl, _, rfl, _, rfl, _, rfl, m, c.M, dx, _, _, rfl, hi, T.clM, T.noM_x, mF_x _ _, _, _, rfl, rfl, m, mc, M, n + M.x, rfl, hM, m, mc, _, _, byteAt M (n + M.x) % 256, rfl, hM, (by show (byteAt M (n + M.x) : Int) % 256 = _; omega), fun H2 hM2 o2 => k _ hM2 o2⟩
    · refine ⟨_, rfl, rfl, _, rfl, itF (by decide) ⟨_, rfl, rfl, _, rfl, itF (by decide) ⟨_, rfl, rfl, _, rfl, itF (by decide) ⟨_, rfl, rfl, _, rfl, itF (by decide) ⟨_, rfl, rfl, _, rfl, itT (by decide) ?_⟩⟩⟩⟩⟩
      exact ⟨_, rfl, _, rfl, _, rfl, m, c.M, dx, _, _, rfl, hi, T.clM, T.noM_x, mF_x _ _, _, _, rfl, rfl, _, rfl, m, c.M, dx, _, _, rfl, hi, T.clM, T.noM_a, mF_a _ _, m, mc, M, n + M.x, M.a, rfl, hM, ha, fun H2 hM2 o2 => k _ hM2 o2⟩
    · refine ⟨_, rfl, rfl, _, rfl, itF (by decide) ⟨_, rfl, rfl, _, rfl, itF (by decide) ⟨_, rfl, rfl, _, rfl, itF (by decide) ⟨_, rfl, rfl, _, rfl, itF (by decide) ⟨_, rfl, rfl, _, rfl, itF (by decide) ⟨_, rfl, rfl, _, rfl, itT (by decide) ?_⟩⟩⟩⟩⟩⟩
      exact ⟨_, rfl, _, rfl, m, mc, _, _, n % 256, rfl, hM, (by show (n : Int) % 256 = _; omega), fun H2 hM2 o2 => k _ hM2 o2⟩
    · refine ⟨_, rfl, rfl, _, rfl, itF (by decide) ⟨_, rfl, rfl, _, rfl, itF (by decide) ⟨_, rfl, rfl, _, rfl, itF (by decide) ⟨_, rfl, rfl, _, rfl, itF (by decide) ⟨_, rfl, rfl, _, rfl, itF (by decide) ⟨_, rfl, rfl, _, rfl, itF (by decide) ?_⟩⟩⟩⟩⟩⟩
      exact ⟨_, rfl, _, rfl, m, c.M, dx, _, _, rfl, hi, T.clM, T.noM_x, mF_x _ _, _, rfl, _, _, rfl, rfl, m, mc, _, _, (M.x + n) % 256, rfl, hM, (by show ((M.x : Int) + (n : Int)) % 256 = _; omega), fun H2 hM2 o2 => k _ hM2 o2⟩
theorem c_jumps (T : Txt K mg c) : Cal P w K mg base CX0 1 "jumps" ["machine", "which"] (spJumps c) := by
  refine T.d_jumps.ok sc_jumps (fun vs H Q E h => ?_) (fun q f cdv A outer s H vs Q E hr h => ⟨_, (pss_cons (ps_if (pt_cmpR op_eq (pv 1) pe_int (nomark _)) (pss_one (ps_ret pe_bl)) pss_nil) (pss_cons (ps_if (pt_cmpR op_eq (pv 1) pe_int (nomark _)) (pss_one (ps_ret (pe_fld (pv 0) rfl))) pss_nil) (pss_one (ps_ret (pe_ifExp (pt_cmpR op_eq (pv 1) pe_int (nomark _)) (pe_not (pe_fld (pv 0) rfl)) (pe_fld (pv 0) rfl)))))), ?_⟩)
  · obtain ⟨m, mc, M, z, rfl, _⟩ := h; rfl
  · obtain ⟨m, mc, M, z, rfl, hM, h1, h2, k⟩ := h
    obtain ⟨dx, hi⟩ := hM.ins
    have : z = 12 ∨ z = 13 ∨ z = 14 ∨ z = 15 := by omega
    rcases this with rfl | rfl | rfl | rfl
    · exact ⟨_, rfl, rfl, _, rfl, itT (by decide) k⟩
    · exact ⟨_, rfl, rfl, _, rfl, itF (by decide) ⟨_, rfl, rfl, _, rfl, itT (by decide) ⟨_, rfl, m, c.M, dx, _, _, rfl, hi, T.clM, T.noM_z, mF_z _ _, k⟩⟩⟩
    · exact ⟨_, rfl, rfl, _, rfl, itF (by decide) ⟨_, rfl, rfl, _, rfl, itF (by decide) ⟨_, rfl, rfl, _, rfl, itT (by decide) ⟨_, rfl, m, c.M, dx, _, _, rfl, hi, T.clM, T.noM_z, mF_z _ _, _, rfl, k⟩⟩⟩⟩
    · exact ⟨_, rfl, rfl, _, rfl, itF (by decide) ⟨_, rfl, rfl, _, rfl, itF (by decide) ⟨_, rfl, rfl, _, rfl, itF (by decide) ⟨_, rfl, m, c.M, dx, _, _, rfl, hi, T.clM, T.noM_c, mF_c _ _, k⟩⟩⟩⟩
end
end Tk
-- the part TkMach2
set_option maxRecDepth 100000
set_option maxHeartbeats 4000000
namespace Tk
open PySem PySem.Spec PyProof.Rows L2
open CsBase (Mach byteAt put inA inX opAt rests upTo frame frames loaded told mark)

theorem Same.new {H : Hp} {p : Addr} {o : HO} (h : H p = none) : Same H (upd H p o) := fun a u e => by
  rw [upd_ne (ne_of_none e h)]; exact e
/-- a machine just loaded -/
def mk0 (l : List Nat) : Mach := ⟨l.toArray, 0, 0, 0, true, false⟩
theorem mF_new (mc : Addr) (l : List Nat) : putF "c" (.bl false) (putF "z" (.bl true) (putF "place" (.int 0) (putF "x" (.int 0) (putF "a" (.int 0) (putF "content" (.ref mc) ([])))))) = mF mc (mk0 l) := by
  have h01 : ¬ ("content" : Str) = "a" := by decide +kernel
  have h02 : ¬ ("content" : Str) = "x" := by decide +kernel
  have h12 : ¬ ("a" : Str) = "x" := by decide +kernel
  have h03 : ¬ ("content" : Str) = "place" := by decide +kernel
  have h13 : ¬ ("a" : Str) = "place" := by decide +kernel
  have h23 : ¬ ("x" : Str) = "place" := by decide +kernel
  have h04 : ¬ ("content" : Str) = "z" := by decide +kernel
  have h14 : ¬ ("a" : Str) = "z" := by decide +kernel
  have h24 : ¬ ("x" : Str) = "z" := by decide +kernel
  have h34 : ¬ ("place" : Str) = "z" := by decide +kernel
  have h05 : ¬ ("content" : Str) = "c" := by decide +kernel
  have h15 : ¬ ("a" : Str) = "c" := by decide +kernel
  have h25 : ¬ ("x" : Str) = "c" := by decide +kernel
  have h35 : ¬ ("place" : Str) = "c" := by decide +kernel
  have h45 : ¬ ("z" : Str) = "c" := by decide +kernel
  simp only [putF, if_neg h01, if_neg h02, if_neg h12, if_neg h03, if_neg h13, if_neg h23, if_neg h04, if_neg h14, if_neg h24, if_neg h34, if_neg h05, if_neg h15, if_neg h25, if_neg h35, if_neg h45]
  rfl
theorem mk0_wf {l : List Nat} (h : l.length = 128) (hb : ∀ b ∈ l, b < 256) : Wf (mk0 l) := ⟨by simpa [mk0] using h, by simpa [mk0] using hb, (by decide : 0 < 256)⟩
theorem mk0_loaded {l : List Nat} (h : l.length = 128) (hb : ∀ b ∈ l, b < 256) : loaded l = mk0 l :=
  mach_ext ((loaded_bytes h hb).trans (by simp [mk0])) rfl rfl rfl rfl rfl

/-! ### promises -/
def spNumbers (c : Cs) : Sp := fun vs H Q _ => ∃ (m mc : Addr) (M : Mach), vs = [.ref m] ∧ MachAt c H m mc M ∧ ∀ p H', Same H H' → H p = none → H' p = some (.lst (vN (told M))) → Q (.ref p) H'
def spMark (c : Cs) : Sp := fun vs H Q _ => ∃ (m mc : Addr) (M : Mach), vs = [.ref m] ∧ MachAt c H m mc M ∧ ∀ H', Same H H' → Q (.int (mark M : Int)) H'
def spAlike (c : Cs) : Sp := fun vs H Q _ => ∃ (m mc n nc : Addr) (M N : Mach), vs = [.ref m, .ref n] ∧ MachAt c H m mc M ∧ MachAt c H n nc N ∧ ∀ H', Same H H' → Q (.bl (Cs05.alike M N)) H'
def spMInit (K : PySem.W.Frag) (c : Cs) : Sp := fun vs H Q _ => ∃ (p dx a : Addr) (l : List Nat), vs = [.ref p, .ref a] ∧ H p = some (.ins c.M dx []) ∧ SqL K H a (vN l) ∧ l.length = 128 ∧ (∀ b ∈ l, b < 256) ∧
  ∀ H' mc, H mc = none → MachAt c H' p mc (mk0 l) → (∀ b o, H b = some o → b ≠ p → H' b = some o) → Q .non H'
def spCopied (c : Cs) : Sp := fun vs H Q _ => ∃ (m mc : Addr) (M : Mach), vs = [.ref m] ∧ MachAt c H m mc M ∧ ∀ p pc H', H p = none → H pc = none → MachAt c H' p pc M → Same H H' → Q (.ref p) H'
theorem flag_ev {t : TT} {b : Bool} {σ : L2.St} {H : Hp} {Q : VK} (h : ∀ Q' : Bool → Hp → Prop, Q' b H → t σ H Q') (k : Q (.int ((if b = true then 1 else 0 : Nat) : Int)) H) : tIf t (tC (.int 1)) (tC (.int 0)) σ H Q := h _ (by cases b <;> exact k)
theorem seq_set {te : TE} {i : Nat} {u : TS} {D : Ends} {σ : L2.St} {H : Hp} (h : te σ H (fun x H1 => u D (σ.set i (some x)) H1)) : tSeq (tAsg te (gName i)) u D σ H := h
theorem seq_drop {te : TE} {u : TS} {D : Ends} {σ : L2.St} {H : Hp} (h : te σ H (fun _ H1 => u D σ H1)) : tSeq (tDrop te) u D σ H := h
theorem one_drop {te : TE} {D : Ends} {σ : L2.St} {H : Hp} (h : te σ H (fun _ H1 => D.nx σ H1)) : tDrop te D σ H := h
theorem ret_ev {te : TE} {D : Ends} {σ : L2.St} {H : Hp} (h : te σ H D.rt) : tRet te D σ H := h
/-- Machine(..) -/
theorem make_ev {K : PySem.W.Frag} {c : Cs} {H : Hp} {a : Addr} {l : List Nat} {Q : VK} {E : XK} {t : TA} {σ : L2.St} (ht : ∀ Q' : List V → Hp → Prop, Q' [.ref a] H → t σ H Q') (hS : SqL K H a (vN l)) (hl : l.length = 128) (hb : ∀ b ∈ l, b < 256)
    (k : ∀ x mc H1, H x = none → H mc = none → MachAt c H1 x mc (mk0 l) → Same H H1 → Q (.ref x) H1) : tMake c.M (spMInit K c) [] E t σ H Q := by
  refine ht _ ?_
  intro x dx nx nd ne
  have s0 : Same H (upd (upd H dx (.own x)) x (.ins c.M dx [])) := fun b o e => by
    rw [upd_ne (ne_of_none e nx), upd_ne (ne_of_none e nd)]; exact e
  exact ⟨x, dx, a, l, rfl, upd_same, s0.seq hS, hl, hb, fun H' mc hmc hM kp => ⟨rfl, k x mc H' nx (s0.free hmc) hM (Same.made nx nd kp)⟩⟩

/-! ### lists of whole numbers are equal -/
theorem eqv_all (l r : List Nat) : PyData.eqvAll (l.map fun (n : Nat) => PyData.int (n : Int)) (r.map fun (n : Nat) => PyData.int (n : Int)) = decide (l = r) := by
  induction l generalizing r with
  | nil => cases r <;> simp [PyData.eqvAll]
  | cons x l ih =>
    cases r with
    | nil => simp [PyData.eqvAll]
    | cons y r =>
      simp only [List.map_cons, PyData.eqvAll, PyData.eqv, ih, List.cons.injEq, Bool.decide_and]
      congr 1
      by_cases z : x = y
      · subst z; simp
      · rw [decide_eq_false z]; exact beq_eq_false_iff_ne.mpr (by omega)
def dN (l : List Nat) : PyData := .list (l.map fun (n : Nat) => PyData.int (n : Int))
theorem dN_eqv (l r : List Nat) : PyData.eqv (dN l) (dN r) = decide (l = r) := by
  unfold dN
  rw [PyData.eqv]; exact eqv_all l r
theorem dN_all {K : PySem.W.Frag} {H : Hp} : ∀ l : List Nat, DpAll K H (vN l) (l.map fun (n : Nat) => PyData.int (n : Int))
  | [] => .nil
  | x :: l => .cons (.int _) (dN_all l)
theorem dN_lay : ∀ l : List Nat, PyData.canLayAll0 (l.map fun (n : Nat) => PyData.int (n : Int)) = true
  | [] => by simp [PyData.canLayAll0]
  | x :: l => by simp [PyData.canLayAll0, PyData.canLay0, dN_lay l]
theorem dN_depth : ∀ l : List Nat, PyData.depthAll (l.map fun (n : Nat) => PyData.int (n : Int)) ≤ 1
  | [] => by simp [PyData.depthAll]
  | x :: l => by simp [PyData.depthAll, PyData.depth]; exact dN_depth l
theorem dN_shaped (l : List Nat) : SeqAt.shaped (dN l) = true := by
  unfold SeqAt.shaped dN
  rw [Bool.and_eq_true, decide_eq_true_eq]
  refine ⟨by rw [PyData.canLay0]; exact dN_lay l, ?_⟩
  rw [PyData.depth]
  have := dN_depth l
  omega
theorem cut_last (l : List Nat) : cutV (vN l) none (some (-1)) = vN (l.take (l.length - 1)) := by
  unfold cutV
  have h1 : HT.sIx (vN l).length 0 none = 0 := rfl
  have h2 : HT.sIx (vN l).length (vN l).length (some (-1)) = l.length - 1 := by
    show (if (-1 : Int) < 0 then ((-1 : Int) + ((vN l).length : Int)).toNat else min (-1 : Int).toNat (vN l).length) = _
    rw [if_pos (by decide), vN_len]; omega
  rw [h1, h2, List.drop_zero, Nat.sub_zero]
  unfold vN; rw [List.map_take]
theorem told_eq (M : Mach) : told M = M.a :: M.x :: M.pc :: (if M.z = true then 1 else 0) :: (if M.c = true then 1 else 0) :: M.mem.toList := rfl
theorem flag_inj {a b : Bool} (h : (if a = true then 1 else 0 : Nat) = if b = true then 1 else 0) : a = b := by
  cases a <;> cases b <;> first | rfl | (simp at h)
theorem set_take {l r : List Nat} (hl : l.length = 128) (hr : r.length = 128) : l.set 127 0 = r.set 127 0 ↔ l.take 127 = r.take 127 := by
  have e : ∀ {t : List Nat}, t.length = 128 → t.set 127 0 = t.take 127 ++ [0] := fun {t} ht => by
    rw [List.set_eq_take_append_cons_drop, if_pos (by omega), List.drop_eq_nil_of_le (by omega)]
  rw [e hl, e hr]
  exact List.append_cancel_right_eq _ _ _ |>.to_iff
theorem alike_eq {M N : Mach} (hM : Wf M) (hN : Wf N) : decide ((told M).take ((told M).length - 1) = (told N).take ((told N).length - 1)) = Cs05.alike M N := by
  have lM : M.mem.toList.length = 128 := by rw [Array.length_toList]; exact hM.size
  have lN : N.mem.toList.length = 128 := by rw [Array.length_toList]; exact hN.size
  have tM : (told M).take ((told M).length - 1) = M.a :: M.x :: M.pc :: (if M.z = true then 1 else 0) :: (if M.c = true then 1 else 0) :: M.mem.toList.take 127 := by
    rw [told_eq]; simp only [List.length_cons, lM]; rfl
  have tN : (told N).take ((told N).length - 1) = N.a :: N.x :: N.pc :: (if N.z = true then 1 else 0) :: (if N.c = true then 1 else 0) :: N.mem.toList.take 127 := by
    rw [told_eq]; simp only [List.length_cons, lN]; rfl
  rw [tM, tN]
  show _ = (put M 127 0 == put N 127 0)
  have key : (M.a :: M.x :: M.pc :: (if M.z = true then 1 else 0) :: (if M.c = true then 1 else 0) :: M.mem.toList.take 127 = N.a :: N.x :: N.pc :: (if N.z = true then 1 else 0) :: (if N.c = true then 1 else 0) :: N.mem.toList.take 127) ↔ put M 127 0 = put N 127 0 := by
    constructor
    · intro h
      injection h with h1 h
      injection h with h2 h
      injection h with h3 h
      injection h with h4 h
      injection h with h5 h
      refine mach_ext ?_ h1 h2 h3 (flag_inj h4) (flag_inj h5)
      rw [put_mem, put_mem]
      exact (set_take lM lN).mpr h
    · intro h
      have h1 : (put M 127 0).a = (put N 127 0).a := congrArg Mach.a h
      change M.a = N.a at h1
      have h2 : (put M 127 0).x = (put N 127 0).x := congrArg Mach.x h
      change M.x = N.x at h2
      have h3 : (put M 127 0).pc = (put N 127 0).pc := congrArg Mach.pc h
      change M.pc = N.pc at h3
      have h4 : (put M 127 0).z = (put N 127 0).z := congrArg Mach.z h
      change M.z = N.z at h4
      have h5 : (put M 127 0).c = (put N 127 0).c := congrArg Mach.c h
      change M.c = N.c at h5
      have h6 : (put M 127 0).mem.toList = (put N 127 0).mem.toList := congrArg (fun m => m.mem.toList) h
      rw [put_mem, put_mem] at h6
      rw [h1, h2, h3, h4, h5, (set_take lM lN).mp h6]
  by_cases e : put M 127 0 = put N 127 0
  · rw [decide_eq_true (key.mpr e), e]; simp
  · rw [decide_eq_false (fun z => e (key.mp z))]; exact (beq_eq_false_iff_ne.mpr e).symm
theorem upTo_rest {n : Nat} {M : Mach} (h : rests M = true) : upTo (n + 1) M = CsBase.step M := by
  show (if rests M = true then _ else _) = _
  rw [if_pos h]
theorem upTo_go {n : Nat} {M : Mach} (h : rests M = false) : upTo (n + 1) M = upTo n (CsBase.step M) := by
  show (if rests M = true then _ else _) = _
  rw [if_neg (by rw [h]; decide)]
section
variable {P : Program} {w : World} {K : PySem.W.Frag} {mg : Str → Option Value} {base : Heap} {c : Cs}
theorem c_do_one (T : Txt K mg c) : Cal P w K mg base CX0 3 "do_one" ["machine"] (spDoOne c) := by
  refine T.d_do_one.ok sc_do_one (fun vs H Q E h => ?_) (fun q f cdv A outer s H vs Q E hr h => ⟨_, (pss_cons (ps_set (i := 1) sc_do_one.nd rfl (Or.inl rfl) (pe_op op_mod (pc_call (c_byte_at T) (hr.mono (by decide)) (by rfl) pass0 (pa_cons (pv 0) (pa_cons (pe_fld (pv 0) rfl) pa_nil))) pe_int)) (pss_cons (ps_set (i := 2) sc_do_one.nd rfl (Or.inl rfl) (pc_call (c_byte_at T) (hr.mono (by decide)) (by rfl) pass0 (pa_cons (pv 0) (pa_cons (pe_op op_add (pe_fld (pv 0) rfl) pe_int) pa_nil)))) (pss_cons (ps_set (i := 3) sc_do_one.nd rfl (Or.inl rfl) (pe_op op_mod (pe_op op_add (pe_fld (pv 0) rfl) pe_int) (pc_int rfl T.g_PLACES))) (pss_cons (ps_if (pt_chain op_le op_le pe_int (pv 1) pe_int) (pss_one (ps_expr (pc_call (c_move T) (hr.mono (by decide)) (by rfl) pass0 (pa_cons (pv 0) (pa_cons (pv 1) (pa_cons (pv 2) pa_nil)))))) (pss_one (ps_if (pt_chain op_le op_le pe_int (pv 1) pe_int) (pss_one (ps_expr (pc_call (c_add_or_take T) (hr.mono (by decide)) (by rfl) pass0 (pa_cons (pv 0) (pa_cons (pv 1) (pa_cons (pv 2) pa_nil)))))) (pss_one (ps_if (PW.pt (pw_and (pt_cmpR op_ge (pv 1) pe_int (nomark _)) (pw_and1 (pt_val (pc_call (c_jumps T) (hr.mono (by decide)) (by rfl) pass0 (pa_cons (pv 0) (pa_cons (pv 1) pa_nil))))))) (pss_one (ps_set (i := 3) sc_do_one.nd rfl (Or.inl rfl) (pe_op op_mod (pv 2) (pc_int rfl T.g_PLACES)))) pss_nil))))) (pss_cons (ps_fld (pv 0) (pv 3) rfl) (pss_one (ps_ret (pe_cmpR op_eq (pv 1) pe_int (nomark _))))))))), ?_⟩)
  · obtain ⟨m, mc, M, rfl, _⟩ := h; rfl
  · obtain ⟨m, mc, M, rfl, hM, k⟩ := h
    obtain ⟨dx, hi⟩ := hM.ins
    obtain ⟨z, hz⟩ : ∃ z, z = byteAt M M.pc % 16 := ⟨_, rfl⟩
    obtain ⟨n, hn⟩ : ∃ n, n = byteAt M (M.pc + 1) := ⟨_, rfl⟩
    have ho : opAt M = (z, n) := by rw [hz, hn]; rfl
    have ez : ((byteAt M M.pc : Nat) : Int) % 16 = (z : Int) := by omega
    have ef : ((M.pc : Int) + 2) % 128 = ((follow M : Nat) : Int) := by unfold follow; omega
    have er : rests M = (z == 0) := by unfold rests; rw [ho]
    have hz16 : z < 16 := by omega
    refine ⟨_, rfl, _, rfl, m, c.M, dx, _, _, rfl, hi, T.clM, T.noM_place, mF_place _ _, m, mc, M, M.pc, rfl, hM, _, _, rfl, rfl, (by show (0 : Int) < 16; decide), ?_⟩
    refine ⟨_, rfl, _, rfl, m, c.M, dx, _, _, rfl, hi, T.clM, T.noM_place, mF_place _ _, _, _, rfl, rfl, m, mc, M, M.pc + 1, rfl, hM, ?_⟩
    refine ⟨_, rfl, m, c.M, dx, _, _, rfl, hi, T.clM, T.noM_place, mF_place _ _, _, _, rfl, rfl, _, _, rfl, rfl, (by show (0 : Int) < 128; decide), ?_⟩
    rw [← hn]
    show tSeq _ _ _ [some (.ref m), some (.int (((byteAt M M.pc : Nat) : Int) % 16)), some (.int (n : Int)), some (.int (((M.pc : Int) + 2) % 128))] H
    rw [ez, ef]
    -- behind the branches: machine.place = following; return which == 0
    have fin : ∀ (M1 : Mach) (H1 : Hp) (p : Nat), MachAt c H1 m mc M1 → Off m mc H H1 → CsBase.step M = { M1 with pc := p } → ∀ dx1 fs, fs = mF mc M1 → H1 m = some (.ins c.M dx1 fs) →
        Q (.bl (decide (V.int (z : Int) = V.int ((0 : Nat) : Int)))) (upd H1 m (.ins c.M dx1 (putF "place" (.int (p : Int)) fs))) := fun M1 H1 p h1 o1 e dx1 fs ef hi1 => by
      subst ef
      rw [dec_int, ← er]
      exact k _ (h1.put1 ((mF_put_place _ _ _).trans (by rw [e])) (by rw [e]) (by rw [e]; exact h1.wf.pc p)) (o1.trans Off.upd1)
    by_cases a1 : 1 ≤ z ∧ z ≤ 7
    · refine ⟨_, rfl, _, _, rfl, rfl, _, rfl, itT (decide_eq_true (show (1 : Int) ≤ (z : Int) by omega)) ⟨_, _, rfl, rfl, _, rfl, itT (decide_eq_true (show (z : Int) ≤ 7 by omega)) ?_⟩⟩
      refine ⟨_, rfl, _, rfl, _, rfl, m, mc, M, z, n, rfl, hM, a1.1, a1.2, fun H1 h1 o1 => ?_⟩
      obtain ⟨dx1, hi1⟩ := h1.ins
      refine ⟨_, rfl, _, rfl, m, c.M, dx1, _, rfl, hi1, T.clM, T.noM_place, few6, _, rfl, rfl, ?_⟩
      exact fin _ H1 _ h1 o1 (step_mov ho a1.1 a1.2) dx1 _ rfl hi1
    · have skip1 : ∀ {A B : Prop}, B → ∃ i j, V.int 1 = V.int i ∧ V.int (z : Int) = V.int j ∧ ∃ k, V.bl (decide (i ≤ j)) = V.bl k ∧ (if k = true then (∃ i j, V.int (z : Int) = V.int i ∧ V.int 7 = V.int j ∧ ∃ k, V.bl (decide (i ≤ j)) = V.bl k ∧ if k = true then A else B) else ∃ k, V.bl false = V.bl k ∧ if k = true then A else B) := fun {A B} b => by
        by_cases l : (1 : Int) ≤ (z : Int)
        · exact ⟨_, _, rfl, rfl, _, rfl, itT (decide_eq_true l) ⟨_, _, rfl, rfl, _, rfl, itF (decide_eq_false (by omega)) b⟩⟩
        · exact ⟨_, _, rfl, rfl, _, rfl, itF (decide_eq_false l) ⟨_, rfl, itF rfl b⟩⟩
      refine ⟨_, rfl, skip1 ?_⟩
      by_cases a2 : 8 ≤ z ∧ z ≤ 11
      · refine ⟨_, rfl, _, _, rfl, rfl, _, rfl, itT (decide_eq_true (show (8 : Int) ≤ (z : Int) by omega)) ⟨_, _, rfl, rfl, _, rfl, itT (decide_eq_true (show (z : Int) ≤ 11 by omega)) ?_⟩⟩
        refine ⟨_, rfl, _, rfl, _, rfl, m, mc, M, z, n, rfl, hM, a2.1, a2.2, fun H1 h1 o1 => ?_⟩
        obtain ⟨dx1, hi1⟩ := h1.ins
        refine ⟨_, rfl, _, rfl, m, c.M, dx1, _, rfl, hi1, T.clM, T.noM_place, few6, _, rfl, rfl, ?_⟩
        exact fin _ H1 _ h1 o1 (step_alu ho a2.1 a2.2) dx1 _ rfl hi1
      · have skip2 : ∀ {A B : Prop}, B → ∃ i j, V.int 8 = V.int i ∧ V.int (z : Int) = V.int j ∧ ∃ k, V.bl (decide (i ≤ j)) = V.bl k ∧ (if k = true then (∃ i j, V.int (z : Int) = V.int i ∧ V.int 11 = V.int j ∧ ∃ k, V.bl (decide (i ≤ j)) = V.bl k ∧ if k = true then A else B) else ∃ k, V.bl false = V.bl k ∧ if k = true then A else B) := fun {A B} b => by
          by_cases l : (8 : Int) ≤ (z : Int)
          · exact ⟨_, _, rfl, rfl, _, rfl, itT (decide_eq_true l) ⟨_, _, rfl, rfl, _, rfl, itF (decide_eq_false (by omega)) b⟩⟩
          · exact ⟨_, _, rfl, rfl, _, rfl, itF (decide_eq_false l) ⟨_, rfl, itF rfl b⟩⟩
        refine ⟨_, rfl, skip2 ?_⟩
        by_cases a3 : 12 ≤ z
        · refine ⟨_, rfl, _, _, rfl, rfl, _, rfl, itT (decide_eq_true (show (12 : Int) ≤ (z : Int) by omega)) ?_⟩
          refine ⟨_, rfl, _, rfl, m, mc, M, z, rfl, hM, a3, hz16, _, rfl, ?_⟩
          have es := step_jmp ho a3 hz16
          cases ej : jmp M z with
          | true =>
            rw [ej, if_pos rfl] at es
            refine itT rfl ⟨_, rfl, _, _, rfl, rfl, (by show (0 : Int) < 128; decide), ?_⟩
            refine ⟨_, rfl, _, rfl, m, c.M, dx, _, rfl, hi, T.clM, T.noM_place, few6, _, rfl, rfl, ?_⟩
            exact fin _ H (n % 128) hM (Off.refl _ _ _) es dx _ rfl hi
          | false =>
            rw [ej, if_neg Bool.false_ne_true] at es
            refine itF rfl ?_
            refine ⟨_, rfl, _, rfl, m, c.M, dx, _, rfl, hi, T.clM, T.noM_place, few6, _, rfl, rfl, ?_⟩
            exact fin _ H _ hM (Off.refl _ _ _) es dx _ rfl hi
        · have z0 : z = 0 := by omega
          refine ⟨_, rfl, _, _, rfl, rfl, _, rfl, itF (decide_eq_false (show ¬ (12 : Int) ≤ (z : Int) by omega)) (itF rfl ?_)⟩
          refine ⟨_, rfl, _, rfl, m, c.M, dx, _, rfl, hi, T.clM, T.noM_place, few6, _, rfl, rfl, ?_⟩
          exact fin _ H _ hM (Off.refl _ _ _) (step_rest (n := n) (by rw [ho, z0])) dx _ rfl hi
theorem c_run_frame (T : Txt K mg c) : Cal P w K mg base CX0 4 "run_frame" ["machine", "pad"] (spFrame c) := by
  refine T.d_run_frame.ok sc_run_frame (fun vs H Q E h => ?_) (fun q f cdv A outer s H vs Q E hr h => ⟨_, (pss_cons (ps_expr (pc_call (c_set_byte T) (hr.mono (by decide)) (by rfl) pass0 (pa_cons (pv 0) (pa_cons (pc_int rfl T.g_PAD_PLACE) (pa_cons (pv 1) pa_nil))))) (pss_cons (ps_set (i := 2) sc_run_frame.nd rfl (Or.inl rfl) pe_int) (pss_one (ps_while PassesOwn.never (PW.pt (pw_and (pt_not (pt_val (pc_call (c_do_one T) (hr.mono (by decide)) (by rfl) pass0 (pa_cons (pv 0) pa_nil)))) (pw_and1 (pt_cmpR op_lt (pv 2) (pc_int rfl T.g_MOST_DONE) (nomark _))))) (pss_one (ps_aug (i := 2) sc_run_frame.nd rfl (Or.inl rfl) pe_int ip_add)))))), ?_⟩)
  · obtain ⟨m, mc, M, v, rfl, _⟩ := h; rfl
  · obtain ⟨m, mc, M, v, rfl, hM, hv, k⟩ := h
    refine ⟨_, rfl, _, rfl, m, mc, M, 127, v, rfl, hM, hv, fun H1 h1 o1 => ?_⟩
    refine ⟨fun j σ H' => ∃ (d : Nat) (M' : Mach), σ = [some (.ref m), some (.int (v : Int)), some (.int (d : Int))] ∧ 1 ≤ d ∧ d ≤ 300 ∧ j = 300 - d ∧ MachAt c H' m mc M' ∧ upTo (301 - d) M' = frame M v ∧ Off m mc H H', ⟨299, 1, put M 127 v, rfl, by omega, by omega, rfl, h1, rfl, o1⟩, ?_⟩
    rintro j σ H' ⟨d, M', rfl, d1, d2, rfl, h', eu, o'⟩
    refine ⟨_, rfl, m, mc, M', rfl, h', fun H2 h2 o2 => ⟨_, rfl, ?_⟩⟩
    have e1 : 301 - d = (300 - d) + 1 := by omega
    rw [e1] at eu
    cases er : rests M' with
    | true =>
      rw [upTo_rest er] at eu
      refine itF rfl (itF rfl ?_)
      exact k _ (by rw [← eu]; exact h2) (o'.trans o2)
    | false =>
      rw [upTo_go er] at eu
      refine itT rfl ⟨_, rfl, _, _, rfl, rfl, _, rfl, ?_⟩
      by_cases dl : d < 300
      · refine itT (decide_eq_true (show (d : Int) < 300 by omega)) ⟨fun σ2 H3 => ∃ (M3 : Mach), σ2 = [some (.ref m), some (.int (v : Int)), some (.int ((d + 1 : Nat) : Int))] ∧ MachAt c H3 m mc M3 ∧ upTo (300 - d) M3 = frame M v ∧ Off m mc H H3, fun σ2 H3 ⟨M3, e, h3, e3, o3⟩ => ⟨300 - (d + 1), by omega, d + 1, M3, e, by omega, by omega, rfl, h3, by rw [← e3]; congr 1; omega, o3⟩, ?_⟩
        exact ⟨_, rfl, _, _, rfl, rfl, _, rfl, h2, eu, o'.trans o2⟩
      · have d3 : d = 300 := by omega
        subst d3
        refine itF (decide_eq_false (show ¬ ((300 : Nat) : Int) < 300 by omega)) ?_
        exact k _ (by rw [← eu]; exact h2) (o'.trans o2)
theorem c_as_numbers (T : Txt K mg c) : Cal P w K mg base CX0 1 "as_numbers" ["machine"] (spNumbers c) := by
  refine T.d_as_numbers.ok sc_as_numbers (fun vs H Q E h => ?_) (fun q f cdv A outer s H vs Q E hr h => ⟨_, (pss_cons (ps_set (i := 1) sc_as_numbers.nd rfl (Or.inl rfl) (pe_lst (pa_cons (pe_ifExp (pt_val (pe_fld (pv 0) rfl)) pe_int pe_int) (pa_cons (pe_ifExp (pt_val (pe_fld (pv 0) rfl)) pe_int pe_int) pa_nil)))) (pss_one (ps_ret (pe_op op_cat (pe_op op_cat (pe_lst (pa_cons (pe_fld (pv 0) rfl) (pa_cons (pe_fld (pv 0) rfl) (pa_cons (pe_fld (pv 0) rfl) pa_nil)))) (pv 1)) (pe_fld (pv 0) rfl))))), ?_⟩)
  · obtain ⟨m, mc, M, rfl, _⟩ := h; rfl
  · obtain ⟨m, mc, M, rfl, hM, k⟩ := h
    obtain ⟨dx, hi⟩ := hM.ins
    refine flag_ev (b := M.z) (fun Q' q => ⟨_, rfl, m, c.M, dx, _, _, rfl, hi, T.clM, T.noM_z, mF_z _ _, _, rfl, q⟩) ?_
    refine flag_ev (b := M.c) (fun Q' q => ⟨_, rfl, m, c.M, dx, _, _, rfl, hi, T.clM, T.noM_c, mF_c _ _, _, rfl, q⟩) ?_
    refine ⟨(by show 2 ≤ sizeLine; decide), fun p hp => ?_⟩
    have s1 : Same H (upd H p (.lst [V.int ((if M.z = true then 1 else 0 : Nat) : Int), V.int ((if M.c = true then 1 else 0 : Nat) : Int)])) := Same.new hp
    generalize hH : upd H p (.lst [V.int ((if M.z = true then 1 else 0 : Nat) : Int), V.int ((if M.c = true then 1 else 0 : Nat) : Int)]) = H1 at s1
    have e1 : H1 p = some (.lst [V.int ((if M.z = true then 1 else 0 : Nat) : Int), V.int ((if M.c = true then 1 else 0 : Nat) : Int)]) := by rw [← hH]; exact upd_same
    have hi1 := s1 _ _ hi
    refine ⟨_, rfl, m, c.M, dx, _, _, rfl, hi1, T.clM, T.noM_a, mF_a _ _, _, rfl, m, c.M, dx, _, _, rfl, hi1, T.clM, T.noM_x, mF_x _ _, _, rfl, m, c.M, dx, _, _, rfl, hi1, T.clM, T.noM_place, mF_place _ _, (by show 3 ≤ sizeLine; decide), fun p1 hp1 => ?_⟩
    have s2 := s1.trans (Same.new (o := .lst [V.int (M.a : Int), V.int (M.x : Int), V.int (M.pc : Int)]) hp1)
    refine ⟨_, rfl, p1, p, _, _, rfl, rfl, upd_same, (Same.new hp1) _ _ e1, (by show 3 + 2 ≤ sizeLine; decide), fun p2 hp2 => ?_⟩
    have s3 := s2.trans (Same.new (o := .lst ([V.int (M.a : Int), V.int (M.x : Int), V.int (M.pc : Int)] ++ [V.int ((if M.z = true then 1 else 0 : Nat) : Int), V.int ((if M.c = true then 1 else 0 : Nat) : Int)])) hp2)
    refine ⟨_, rfl, m, c.M, dx, _, _, rfl, s3 _ _ hi, T.clM, T.noM_content, mF_content _ _, p2, mc, _, _, rfl, rfl, upd_same, s3 _ _ hM.lst, (by
      show 5 + (vN M.mem.toList).length ≤ sizeLine
      rw [vN_len, Array.length_toList, hM.wf.size]; decide), fun p3 hp3 => ?_⟩
    refine k p3 _ (s3.trans (Same.new hp3)) (s3.free hp3) ?_
    rw [upd_same]; rfl
theorem c_mark_of (T : Txt K mg c) : Cal P w K mg base CX0 2 "mark_of" ["machine"] (spMark c) := by
  refine T.d_mark_of.ok sc_mark_of (fun vs H Q E h => ?_) (fun q f cdv A outer s H vs Q E hr h => ⟨_, (pss_cons (ps_set (i := 1) sc_mark_of.nd rfl (Or.inl rfl) pe_int) (pss_cons (ps_for PassesOwn.never rfl (pi_list (pc_call (c_as_numbers T) (hr.mono (by decide)) (by rfl) pass0 (pa_cons (pv 0) pa_nil))) (pg_name (i := 2) sc_mark_of.nd rfl (Or.inl rfl)) (pss_one (ps_set (i := 1) sc_mark_of.nd rfl (Or.inl rfl) (pe_op op_mod (pe_op op_add (pe_op op_add (pe_op op_mul (pc_int rfl T.g_MARK_TIMES) (pv 1)) (pv 2)) (pc_int rfl T.g_MARK_MORE)) (pc_int rfl T.g_MARK_REST))))) (pss_one (ps_ret (pv 1))))), ?_⟩)
  · obtain ⟨m, mc, M, rfl, _⟩ := h; rfl
  · obtain ⟨m, mc, M, rfl, hM, k⟩ := h
    refine ⟨_, rfl, m, mc, M, rfl, hM, fun p H1 s1 hp e1 => ⟨p, rfl, ⟨_, SqL.of e1⟩, for_list (K := K) (a := p) (xs := vN (told M)) (fun i σ H' => H' = H1 ∧ ∃ v, σ = [some (.ref m), some (.int (((told M).take i).foldl (fun (h v : Nat) => (31 * h + v + 7) % 65521) 0 : Nat)), v]) ⟨rfl, none, rfl⟩ (fun i σ H' _ ⟨e, _⟩ => by rw [e]; exact SqL.of e1) ?_ ?_⟩⟩
    · rintro i y σ H' hi ⟨rfl, v, rfl⟩
      obtain ⟨z, hz, rfl⟩ : ∃ z, (told M)[i]? = some z ∧ y = V.int (z : Int) := by
        unfold vN at hi
        rw [List.getElem?_map] at hi
        cases e : (told M)[i]? with
        | none => rw [e] at hi; cases hi
        | some z => rw [e] at hi; exact ⟨z, rfl, (Option.some.inj hi).symm⟩
      refine ⟨_, rfl, _, _, rfl, rfl, .inl ⟨by decide, by decide⟩, _, rfl, _, _, rfl, rfl, _, _, rfl, rfl, _, _, rfl, rfl, (by show (0 : Int) < 65521; decide), rfl, some (.int (z : Int)), ?_⟩
      have et : (told M).take (i + 1) = (told M).take i ++ [z] := by
        rw [List.take_add_one, hz]; rfl
      rw [et, List.foldl_append]
      rfl
    · rintro σ H' ⟨rfl, v, rfl⟩
      refine ⟨_, rfl, ?_⟩
      rw [vN_len, List.take_length]
      exact k _ s1
theorem c_are_alike (T : Txt K mg c) : Cal P w K mg base CX0 2 "are_alike" ["first", "second"] (spAlike c) := by
  refine T.d_are_alike.ok sc_are_alike (fun vs H Q E h => ?_) (fun q f cdv A outer s H vs Q E hr h => ⟨_, (pss_one (ps_ret (pe_cmpR (op_eqD hr.units) (pe_slice sl_list (pc_call (c_as_numbers T) (hr.mono (by decide)) (by rfl) pass0 (pa_cons (pv 0) pa_nil)) po_none (po_some (pe_un un_neg pe_int))) (pe_slice sl_list (pc_call (c_as_numbers T) (hr.mono (by decide)) (by rfl) pass0 (pa_cons (pv 1) pa_nil)) po_none (po_some (pe_un un_neg pe_int))) (nomark _)))), ?_⟩)
  · obtain ⟨m, mc, n, nc, M, N, rfl, _⟩ := h; rfl
  · obtain ⟨m, mc, n, nc, M, N, rfl, hM, hN, k⟩ := h
    refine ⟨_, rfl, m, mc, M, rfl, hM, fun p H1 s1 hp e1 => ⟨_, rfl, _, rfl, p, _, rfl, SqL.of e1, fun p' hp' => ?_⟩⟩
    have s2 := s1.trans (Same.new (o := .lst (cutV (vN (told M)) none (some (-1)))) hp')
    have e2 : (upd H1 p' (.lst (cutV (vN (told M)) none (some (-1))))) p' = some (.lst (vN ((told M).take ((told M).length - 1)))) := by rw [upd_same, cut_last]
    refine ⟨_, rfl, n, nc, N, rfl, hN.same s2, fun r H2 s3 hr' e3 => ⟨_, rfl, _, rfl, r, _, rfl, SqL.of e3, fun r' hr'' => ?_⟩⟩
    have s4 := Same.new (o := .lst (cutV (vN (told N)) none (some (-1)))) hr''
    have e4 : (upd H2 r' (.lst (cutV (vN (told N)) none (some (-1))))) r' = some (.lst (vN ((told N).take ((told N).length - 1)))) := by rw [upd_same, cut_last]
    refine ⟨dN _, dN _, .lst (SqL.of (s4 _ _ (s3 _ _ e2))) (dN_all _), .lst (SqL.of e4) (dN_all _), dN_shaped _, dN_shaped _, ?_⟩
    rw [dN_eqv, alike_eq hM.wf hN.wf]
    exact k _ ((s2.trans s3).trans s4)
theorem c_Machine_init (T : Txt K mg c) : CalM P w K mg base c.M 1 "Machine" ["self", "loaded"] (spMInit K c) := by
  refine T.i_Machine.ok sc_Machine_init (fun vs H Q E h => ?_) (fun f cdv A outer s H vs Q E hr h => ⟨_, (pss_cons (ps_fld (pv 0) (pe_callTy call_list_of (by rfl) T.n_list (by decide +kernel) (pa_cons (pv 1) pa_nil)) rfl) (pss_cons (ps_fld (pv 0) pe_int rfl) (pss_cons (ps_fld (pv 0) pe_int rfl) (pss_cons (ps_fld (pv 0) pe_int rfl) (pss_cons (ps_fld (pv 0) pe_bl rfl) (pss_one (ps_fld (pv 0) pe_bl rfl))))))), ?_⟩)
  · obtain ⟨p, dx, a, l, rfl, _⟩ := h; rfl
  · obtain ⟨p, dx, a, l, rfl, hp, hS, hl, hb, k⟩ := h
    refine ⟨_, rfl, a, _, rfl, .inl hS, fun mc hmc => ?_⟩
    have nmc : p ≠ mc := ne_of_none hp hmc
    refine ⟨_, rfl, p, c.M, dx, [], rfl, (by rw [upd_ne nmc]; exact hp), T.clM, T.noM_content, (by show 0 < 1000; decide), ?_⟩
    refine ⟨_, rfl, p, c.M, dx, _, rfl, upd_same, T.clM, T.noM_a, (by show 1 < 1000; decide), ?_⟩
    refine ⟨_, rfl, p, c.M, dx, _, rfl, upd_same, T.clM, T.noM_x, (by show 2 < 1000; decide), ?_⟩
    refine ⟨_, rfl, p, c.M, dx, _, rfl, upd_same, T.clM, T.noM_place, (by show 3 < 1000; decide), ?_⟩
    refine ⟨_, rfl, p, c.M, dx, _, rfl, upd_same, T.clM, T.noM_z, (by show 4 < 1000; decide), ?_⟩
    refine ⟨_, rfl, p, c.M, dx, _, rfl, upd_same, T.clM, T.noM_c, (by show 5 < 1000; decide), ?_⟩
    rw [upd_upd, upd_upd, upd_upd, upd_upd, upd_upd, mF_new mc l]
    refine k _ mc hmc ⟨⟨dx, upd_same⟩, ?_, mk0_wf hl hb⟩ fun b o e ne => ?_
    · rw [upd_ne nmc.symm, upd_same]
      show some (HO.lst (vN l)) = some (HO.lst (vN l.toArray.toList))
      rfl
    · rw [upd_ne ne, upd_ne (ne_of_none e hmc)]; exact e
theorem c_copied (T : Txt K mg c) : Cal P w K mg base CX0 3 "copied" ["machine"] (spCopied c) := by
  refine T.d_copied.ok sc_copied (fun vs H Q E h => ?_) (fun q f cdv A outer s H vs Q E hr h => ⟨_, (pss_cons (ps_set (i := 1) sc_copied.nd rfl (Or.inl rfl) (pc_make (c_Machine_init T) (hr.mono (by decide)) (by rfl) pass0 (pa_cons (pe_fld (pv 0) rfl) pa_nil))) (pss_cons (ps_fld (pv 1) (pe_fld (pv 0) rfl) rfl) (pss_cons (ps_fld (pv 1) (pe_fld (pv 0) rfl) rfl) (pss_cons (ps_fld (pv 1) (pe_fld (pv 0) rfl) rfl) (pss_cons (ps_fld (pv 1) (pe_fld (pv 0) rfl) rfl) (pss_cons (ps_fld (pv 1) (pe_fld (pv 0) rfl) rfl) (pss_one (ps_ret (pv 1))))))))), ?_⟩)
  · obtain ⟨m, mc, M, rfl, _⟩ := h; rfl
  · obtain ⟨m, mc, M, rfl, hM, k⟩ := h
    obtain ⟨dx, hi⟩ := hM.ins
    refine seq_set (make_ev (fun Q' q => ⟨_, rfl, m, c.M, dx, _, _, rfl, hi, T.clM, T.noM_content, mF_content _ _, q⟩) (SqL.of hM.lst) (by rw [Array.length_toList]; exact hM.wf.size) hM.wf.bytes fun x xc H1 nx nxc h1 s1 => ?_)
    have hM1 := hM.same s1
    obtain ⟨d1, i1⟩ := h1.ins
    have mx : m ≠ x := ne_of_none hi nx
    have M0 : mk0 M.mem.toList = { M with a := 0, x := 0, pc := 0, z := true, c := false } := by
      unfold mk0; congr 1
    rw [M0] at h1 i1
    -- each store leaves the copy's machine one field further, all else of H stands
    have go : ∀ {H' : Hp} {M' M'' : Mach} {dx' : Addr} {fs : List (Str × V)} {R : Hp → Prop}, MachAt c H' x xc M' → Off x xc H1 H' → fs = mF xc M'' → M''.mem = M'.mem → Wf M'' → (∀ H2, MachAt c H2 x xc M'' → Off x xc H1 H2 → (∃ d, H2 x = some (.ins c.M d (mF xc M''))) → H2 m = some (.ins c.M dx (mF mc M)) → R H2) → R (upd H' x (.ins c.M dx' fs)) := fun {H' M' M'' dx' fs R} h' o' ef em wf kk => by
      have q := h'.put1 (dx := dx') ef em wf
      have o2 := o'.trans (Off.upd1 (o := .ins c.M dx' fs))
      exact kk _ q o2 q.ins (o2 _ _ (s1 _ _ hi) mx (ne_of_none hi nxc))
    refine ⟨_, rfl, m, c.M, dx, _, _, rfl, s1 _ _ hi, T.clM, T.noM_a, mF_a _ _, _, rfl, x, c.M, d1, _, rfl, i1, T.clM, T.noM_a, few6, go (M'' := { M with x := 0, pc := 0, z := true, c := false }) h1 (Off.refl _ _ _) (mF_put_a _ _ _) rfl ⟨hM.wf.size, hM.wf.bytes, hM.wf.a⟩ fun H2 h2 o2 ⟨d2, i2⟩ him => ?_⟩
    refine ⟨_, rfl, m, c.M, dx, _, _, rfl, him, T.clM, T.noM_x, mF_x _ _, _, rfl, x, c.M, d2, _, rfl, i2, T.clM, T.noM_x, few6, go (M'' := { M with pc := 0, z := true, c := false }) h2 o2 (mF_put_x _ _ _) rfl ⟨hM.wf.size, hM.wf.bytes, hM.wf.a⟩ fun H3 h3 o3 ⟨d3, i3⟩ him => ?_⟩
    refine ⟨_, rfl, m, c.M, dx, _, _, rfl, him, T.clM, T.noM_place, mF_place _ _, _, rfl, x, c.M, d3, _, rfl, i3, T.clM, T.noM_place, few6, go (M'' := { M with z := true, c := false }) h3 o3 (mF_put_place _ _ _) rfl ⟨hM.wf.size, hM.wf.bytes, hM.wf.a⟩ fun H4 h4 o4 ⟨d4, i4⟩ him => ?_⟩
    refine ⟨_, rfl, m, c.M, dx, _, _, rfl, him, T.clM, T.noM_z, mF_z _ _, _, rfl, x, c.M, d4, _, rfl, i4, T.clM, T.noM_z, few6, go (M'' := { M with c := false }) h4 o4 (mF_put_z _ _ _) rfl ⟨hM.wf.size, hM.wf.bytes, hM.wf.a⟩ fun H5 h5 o5 ⟨d5, i5⟩ him => ?_⟩
    refine ⟨_, rfl, m, c.M, dx, _, _, rfl, him, T.clM, T.noM_c, mF_c _ _, _, rfl, x, c.M, d5, _, rfl, i5, T.clM, T.noM_c, few6, go (M'' := M) h5 o5 (mF_put_c _ _ _) rfl hM.wf fun H6 h6 o6 ⟨d6, i6⟩ him => ?_⟩
    refine ⟨_, rfl, k x xc H6 nx nxc h6 fun b o e => o6 b o (s1 b o e) (ne_of_none e nx) (ne_of_none e nxc)⟩
end
end Tk
-- the part TkTakes
set_option maxRecDepth 100000
set_option maxHeartbeats 4000000
namespace Tk
open PySem PySem.Spec PyProof.Rows L2
open CsBase (Mach byteAt put inA inX opAt rests upTo frame frames loaded told mark)

def tF (par : Int) (ahd : Nat) (p q : Addr) : List (Str × V) := [("parent", .int par), ("ahead", .int (ahd : Int)), ("pads", .ref p), ("marks", .ref q)]
theorem tF_parent (par : Int) (ahd : Nat) (p q : Addr) : (tF par ahd p q).lookup ("parent" : Str) = some (.int par) := lk_here
theorem tF_ahead (par : Int) (ahd : Nat) (p q : Addr) : (tF par ahd p q).lookup ("ahead" : Str) = some (.int (ahd : Int)) := (lk_past (by decide +kernel)).trans lk_here
theorem tF_pads (par : Int) (ahd : Nat) (p q : Addr) : (tF par ahd p q).lookup ("pads" : Str) = some (.ref p) := (lk_past (by decide +kernel)).trans ((lk_past (by decide +kernel)).trans lk_here)
theorem tF_marks (par : Int) (ahd : Nat) (p q : Addr) : (tF par ahd p q).lookup ("marks" : Str) = some (.ref q) := (lk_past (by decide +kernel)).trans ((lk_past (by decide +kernel)).trans ((lk_past (by decide +kernel)).trans lk_here))
theorem tF_new (par : Int) (ahd : Nat) (p q : Addr) : putF "marks" (.ref q) (putF "pads" (.ref p) (putF "ahead" (.int (ahd : Int)) (putF "parent" (.int par) ([])))) = tF par ahd p q := by
  have h01 : ¬ ("parent" : Str) = "ahead" := by decide +kernel
  have h02 : ¬ ("parent" : Str) = "pads" := by decide +kernel
  have h12 : ¬ ("ahead" : Str) = "pads" := by decide +kernel
  have h03 : ¬ ("parent" : Str) = "marks" := by decide +kernel
  have h13 : ¬ ("ahead" : Str) = "marks" := by decide +kernel
  have h23 : ¬ ("pads" : Str) = "marks" := by decide +kernel
  simp only [putF, if_neg h01, if_neg h02, if_neg h12, if_neg h03, if_neg h13, if_neg h23]
  rfl
def hF (l T m : Addr) (a b : Nat) : List (Str × V) := [("loaded", .ref l), ("takes", .ref T), ("here", .int (a : Int)), ("played", .int (b : Int)), ("machine", .ref m)]
theorem hF_loaded (l T m : Addr) (a b : Nat) : (hF l T m a b).lookup ("loaded" : Str) = some (.ref l) := lk_here
theorem hF_takes (l T m : Addr) (a b : Nat) : (hF l T m a b).lookup ("takes" : Str) = some (.ref T) := (lk_past (by decide +kernel)).trans lk_here
theorem hF_here (l T m : Addr) (a b : Nat) : (hF l T m a b).lookup ("here" : Str) = some (.int (a : Int)) := (lk_past (by decide +kernel)).trans ((lk_past (by decide +kernel)).trans lk_here)
theorem hF_played (l T m : Addr) (a b : Nat) : (hF l T m a b).lookup ("played" : Str) = some (.int (b : Int)) := (lk_past (by decide +kernel)).trans ((lk_past (by decide +kernel)).trans ((lk_past (by decide +kernel)).trans lk_here))
theorem hF_machine (l T m : Addr) (a b : Nat) : (hF l T m a b).lookup ("machine" : Str) = some (.ref m) := (lk_past (by decide +kernel)).trans ((lk_past (by decide +kernel)).trans ((lk_past (by decide +kernel)).trans ((lk_past (by decide +kernel)).trans lk_here)))
theorem hF_put_here (l T m : Addr) (a b : Nat) (k : Nat) : putF "here" (.int (k : Int)) (hF l T m a b) = hF l T m k b := (put_past (by decide +kernel)).trans (congrArg _ ((put_past (by decide +kernel)).trans (congrArg _ put_here)))
theorem hF_put_played (l T m : Addr) (a b : Nat) (k : Nat) : putF "played" (.int (k : Int)) (hF l T m a b) = hF l T m a k := (put_past (by decide +kernel)).trans (congrArg _ ((put_past (by decide +kernel)).trans (congrArg _ ((put_past (by decide +kernel)).trans (congrArg _ put_here)))))
theorem hF_put_machine (l T m : Addr) (a b : Nat) (x : Addr) : putF "machine" (.ref x) (hF l T m a b) = hF l T x a b := (put_past (by decide +kernel)).trans (congrArg _ ((put_past (by decide +kernel)).trans (congrArg _ ((put_past (by decide +kernel)).trans (congrArg _ ((put_past (by decide +kernel)).trans (congrArg _ put_here)))))))
theorem hF_new (l T m : Addr) (a b : Nat) : putF "machine" (.ref m) (putF "played" (.int (b : Int)) (putF "here" (.int (a : Int)) (putF "takes" (.ref T) (putF "loaded" (.ref l) ([]))))) = hF l T m a b := by
  have h01 : ¬ ("loaded" : Str) = "takes" := by decide +kernel
  have h02 : ¬ ("loaded" : Str) = "here" := by decide +kernel
  have h12 : ¬ ("takes" : Str) = "here" := by decide +kernel
  have h03 : ¬ ("loaded" : Str) = "played" := by decide +kernel
  have h13 : ¬ ("takes" : Str) = "played" := by decide +kernel
  have h23 : ¬ ("here" : Str) = "played" := by decide +kernel
  have h04 : ¬ ("loaded" : Str) = "machine" := by decide +kernel
  have h14 : ¬ ("takes" : Str) = "machine" := by decide +kernel
  have h24 : ¬ ("here" : Str) = "machine" := by decide +kernel
  have h34 : ¬ ("played" : Str) = "machine" := by decide +kernel
  simp only [putF, if_neg h01, if_neg h02, if_neg h12, if_neg h03, if_neg h13, if_neg h23, if_neg h04, if_neg h14, if_neg h24, if_neg h34]
  rfl
/-- a statement, then the rest, with a word between them -/
def tCut2 (t u : TS) : TS := fun D σ H => ∃ Mid : L2.St → Hp → Prop, t { D with nx := Mid } σ H ∧ ∀ σ' H', Mid σ' H' → u D σ' H'
theorem pt_cut {X : Cx} {st : Stmt} {rest : List Stmt} {t u : TS} (h1 : PS X st t) (h2 : PSs X rest u) : PSs X (st :: rest) (tCut2 t u) := by
  refine ⟨fun pins s σ H D I h => ?_⟩
  obtain ⟨Mid, h, k⟩ := h
  refine wpAny_execs_cons (thn (h1.run pins s σ H { D with nx := Mid } I h) fun f s1 q => ?_)
  cases f with
  | next =>
    obtain ⟨σ', H', I', q⟩ := q
    exact h2.run pins s1 σ' H' D I' (k σ' H' q)
  | ret v => exact q
  | brk => exact q
  | cont => exact q

/-! ### the house in the heap -/
structure TakeAt (c : Cs) (H : Hp) (t p q : Addr) (k : Tak) : Prop where
  ins : ∃ dx, H t = some (.ins c.T dx (tF k.par k.ahd p q))
  pads : H p = some (.lst (vN k.pads))
  marks : H q = some (.lst (vN k.marks))
theorem TakeAt.same {c : Cs} {H H' : Hp} {t p q : Addr} {k : Tak} (h : TakeAt c H t p q k) (s : Same H H') : TakeAt c H' t p q k := by
  obtain ⟨⟨dx, e⟩, h1, h2⟩ := h
  exact ⟨⟨dx, s _ _ e⟩, s _ _ h1, s _ _ h2⟩
/-- the house's addresses -/
structure Ad where
  h : Addr
  l : Addr
  T : Addr
  m : Addr
  mc : Addr
  t : Nat → Addr
  p : Nat → Addr
  q : Nat → Addr
/-- each is told apart by its mark -/
structure Lab (L : Addr → Option Nat) (d : Ad) (n : Nat) : Prop where
  h : L d.h = some 0
  l : L d.l = some 1
  T : L d.T = some 2
  m : L d.m = some 3
  mc : L d.mc = some 4
  t : ∀ i, i < n → L (d.t i) = some (5 + 3 * i)
  p : ∀ i, i < n → L (d.p i) = some (6 + 3 * i)
  q : ∀ i, i < n → L (d.q i) = some (7 + 3 * i)
theorem lab_ne {L : Addr → Option Nat} {a b : Addr} {i j : Nat} (ha : L a = some i) (hb : L b = some j) (h : i ≠ j) : a ≠ b := fun e => by
  rw [e, hb] at ha; exact h (Option.some.inj ha).symm
def refs (d : Ad) (n : Nat) : List V := (List.range n).map fun i => V.ref (d.t i)
theorem refs_get {d : Ad} {n i : Nat} (h : i < n) : (refs d n)[i]? = some (V.ref (d.t i)) := by
  unfold refs; rw [List.getElem?_map, List.getElem?_range h]; rfl
theorem refs_len (d : Ad) (n : Nat) : (refs d n).length = n := by unfold refs; rw [List.length_map, List.length_range]
structure HAt (c : Cs) (H : Hp) (L : Addr → Option Nat) (d : Ad) (s : Hs) : Prop where
  ins : ∃ dx, H d.h = some (.ins c.H dx (hF d.l d.T d.m s.here s.pl))
  lo : H d.l = some (.lst (vN s.lo))
  tks : H d.T = some (.lst (refs d s.ts.length))
  tk : ∀ i, i < s.ts.length → TakeAt c H (d.t i) (d.p i) (d.q i) (s.tk i)
  mach : MachAt c H d.m d.mc s.m
  lab : Lab L d s.ts.length
/-- what has no mark stands, and gets none -/
def Fr (L : Addr → Option Nat) (H : Hp) (L' : Addr → Option Nat) (H' : Hp) : Prop := ∀ a o, H a = some o → L a = none → H' a = some o ∧ L' a = none
theorem Fr.refl (L : Addr → Option Nat) (H : Hp) : Fr L H L H := fun _ _ h h2 => ⟨h, h2⟩
theorem Fr.trans {L L1 L2 : Addr → Option Nat} {H H1 H2 : Hp} (a : Fr L H L1 H1) (b : Fr L1 H1 L2 H2) : Fr L H L2 H2 := fun x o h h1 => let ⟨e, e1⟩ := a x o h h1; b x o e e1
theorem Fr.same {L : Addr → Option Nat} {H H' : Hp} (s : Same H H') : Fr L H L H' := fun x o h h1 => ⟨s x o h, h1⟩
theorem Fr.store {L : Addr → Option Nat} {H : Hp} {a : Addr} {o : HO} {i : Nat} (ha : L a = some i) : Fr L H L (upd H a o) := fun x u h h1 => ⟨by rw [upd_ne (fun e => by rw [e, ha] at h1; cases h1)]; exact h, h1⟩
theorem Fr.off {L : Addr → Option Nat} {H H' : Hp} {m mc : Addr} {i j : Nat} (hm : L m = some i) (hc : L mc = some j) (o : Off m mc H H') : Fr L H L H' := fun x u h h1 => ⟨o x u h (fun e => by rw [e, hm] at h1; cases h1) (fun e => by rw [e, hc] at h1; cases h1), h1⟩
/-- p is none of what stands without a mark -/
def New (L : Addr → Option Nat) (H : Hp) (p : Addr) : Prop := ∀ o, H p = some o → L p = none → False
theorem New.back {L L2 : Addr → Option Nat} {H H2 : Hp} {p : Addr} (f : Fr L H L2 H2) (h : New L2 H2 p) : New L H p := fun o e l => let ⟨e2, l2⟩ := f p o e l; h o e2 l2
theorem New.no {L : Addr → Option Nat} {H : Hp} {p : Addr} (h : H p = none) : New L H p := fun o e _ => by rw [h] at e; cases e
theorem New.of {L L2 : Addr → Option Nat} {H H2 : Hp} {p : Addr} (f : Fr L H L2 H2) (h : H2 p = none) : New L H p := New.back f (New.no h)
/-- what is always fine of a house's lists -/
structure Fine (s : Hs) : Prop where
  lo : s.lo.length = 128
  bytes : ∀ b ∈ s.lo, b < 256
  most : s.ts.length ≤ 12
  tks : ∀ t ∈ s.ts, GoodT t
theorem Good.fine {s : Hs} (g : Good s) : Fine s := ⟨g.lo, g.bytes, g.most, g.tks⟩
theorem Fine.tk {s : Hs} (g : Fine s) {k : Nat} (hk : k < s.ts.length) : GoodT (s.tk k) := g.tks _ (mem_getD hk)
section
variable {c : Cs} {H H' : Hp} {L : Addr → Option Nat} {d : Ad} {s : Hs}
theorem HAt.same (h : HAt c H L d s) (e : Same H H') : HAt c H' L d s := by
  obtain ⟨⟨dx, hi⟩, h2, h3, h4, h5, h6⟩ := h
  exact ⟨⟨dx, e _ _ hi⟩, e _ _ h2, e _ _ h3, fun i hi => (h4 i hi).same e, h5.same e, h6⟩
/-- a store into the house itself -/
theorem HAt.put_h {dx : Addr} {fs : List (Str × V)} (h : HAt c H L d s) (a b : Nat) (ef : fs = hF d.l d.T d.m a b) : HAt c (upd H d.h (.ins c.H dx fs)) L d { s with here := a, pl := b } := by
  obtain ⟨⟨dx', hi⟩, h2, h3, h4, h5, h6⟩ := h
  refine ⟨⟨dx, by rw [upd_same, ef]⟩, ?_, ?_, fun i hi => ⟨?_, ?_, ?_⟩, ⟨?_, ?_, h5.wf⟩, h6⟩
  · rw [upd_ne (lab_ne h6.l h6.h (by decide))]; exact h2
  · rw [upd_ne (lab_ne h6.T h6.h (by decide))]; exact h3
  · obtain ⟨x, e⟩ := (h4 i hi).ins
    exact ⟨x, by rw [upd_ne (lab_ne (h6.t i hi) h6.h (by omega))]; exact e⟩
  · rw [upd_ne (lab_ne (h6.p i hi) h6.h (by omega))]; exact (h4 i hi).pads
  · rw [upd_ne (lab_ne (h6.q i hi) h6.h (by omega))]; exact (h4 i hi).marks
  · obtain ⟨x, e⟩ := h5.ins
    exact ⟨x, by rw [upd_ne (lab_ne h6.m h6.h (by decide))]; exact e⟩
  · rw [upd_ne (lab_ne h6.mc h6.h (by decide))]; exact h5.lst
/-- the machine has run -/
theorem HAt.run {M : Mach} (h : HAt c H L d s) (hM : MachAt c H' d.m d.mc M) (o : Off d.m d.mc H H') : HAt c H' L d { s with m := M } := by
  obtain ⟨⟨dx', hi⟩, h2, h3, h4, h5, h6⟩ := h
  have k : ∀ {a : Addr} {u : HO} {i : Nat}, H a = some u → L a = some i → i ≠ 3 → i ≠ 4 → H' a = some u := fun {a u i} e l n3 n4 => o _ _ e (lab_ne l h6.m n3) (lab_ne l h6.mc n4)
  refine ⟨⟨dx', k hi h6.h (by decide) (by decide)⟩, k h2 h6.l (by decide) (by decide), k h3 h6.T (by decide) (by decide), fun i hi => ⟨?_, k (h4 i hi).pads (h6.p i hi) (by omega) (by omega), k (h4 i hi).marks (h6.q i hi) (by omega) (by omega)⟩, hM, h6⟩
  obtain ⟨x, e⟩ := (h4 i hi).ins
  exact ⟨x, k e (h6.t i hi) (by omega) (by omega)⟩
/-- the marks with a new machine at x, its bytes at xc -/
def relab (L : Addr → Option Nat) (x xc : Addr) : Addr → Option Nat := fun a => if a = x then some 3 else if a = xc then some 4 else L a
theorem relab_old {x xc a : Addr} (h1 : a ≠ x) (h2 : a ≠ xc) : relab L x xc a = L a := by unfold relab; rw [if_neg h1, if_neg h2]
theorem Fr.relab {x xc : Addr} (nx : H x = none) (nc : H xc = none) : Fr L H (relab L x xc) H := fun a o h h1 => ⟨h, by rw [relab_old (ne_of_none h nx) (ne_of_none h nc)]; exact h1⟩
/-- a new machine is the house's -/
theorem HAt.put_m {H0 : Hp} {dx x xc : Addr} {fs : List (Str × V)} {M : Mach} (h0 : HAt c H0 L d s) (nx : H0 x = none) (nc : H0 xc = none) (e0 : Same H0 H) (hM : MachAt c H x xc M) (ef : fs = hF d.l d.T x s.here s.pl) :
    HAt c (upd H d.h (.ins c.H dx fs)) (relab L x xc) { d with m := x, mc := xc } { s with m := M } := by
  have h := h0.same e0
  obtain ⟨⟨dx', hi⟩, h2, h3, h4, h5, h6⟩ := h
  obtain ⟨⟨dx0, i0⟩, l0, T0, t0, m0, _⟩ := h0
  have nh : ∀ {a : Addr} {i : Nat}, L a = some i → i ≠ 0 → a ≠ d.h := fun l n => lab_ne l h6.h n
  have xh : x ≠ d.h := (ne_of_none i0 nx).symm
  have xch : xc ≠ d.h := (ne_of_none i0 nc).symm
  have re : ∀ {a : Addr} {u : HO}, H0 a = some u → relab L x xc a = L a := fun e => relab_old (ne_of_none e nx) (ne_of_none e nc)
  refine ⟨⟨dx, by show upd H d.h _ d.h = _; rw [upd_same, ef]⟩, ?_, ?_, fun i hi => ⟨?_, ?_, ?_⟩, ⟨?_, ?_, hM.wf⟩, ⟨?_, ?_, ?_, ?_, ?_, fun i hi => ?_, fun i hi => ?_, fun i hi => ?_⟩⟩
  · show upd H d.h _ d.l = _
    rw [upd_ne (nh h6.l (by decide))]; exact h2
  · show upd H d.h _ d.T = _
    rw [upd_ne (nh h6.T (by decide))]; exact h3
  · obtain ⟨y, e⟩ := (h4 i hi).ins
    exact ⟨y, by show upd H d.h _ (d.t i) = _; rw [upd_ne (nh (h6.t i hi) (by omega))]; exact e⟩
  · show upd H d.h _ (d.p i) = _
    rw [upd_ne (nh (h6.p i hi) (by omega))]; exact (h4 i hi).pads
  · show upd H d.h _ (d.q i) = _
    rw [upd_ne (nh (h6.q i hi) (by omega))]; exact (h4 i hi).marks
  · obtain ⟨y, e⟩ := hM.ins
    exact ⟨y, by show upd H d.h _ x = _; rw [upd_ne xh]; exact e⟩
  · show upd H d.h _ xc = _
    rw [upd_ne xch]; exact hM.lst
  · exact (re i0).trans h6.h
  · exact (re l0).trans h6.l
  · exact (re T0).trans h6.T
  · show (if x = x then some 3 else if x = xc then some 4 else L x) = some 3
    rw [if_pos rfl]
  · show (if xc = x then some 3 else if xc = xc then some 4 else L xc) = some 4
    rw [if_neg hM.ne.symm, if_pos rfl]
  · obtain ⟨y, e⟩ := (t0 i hi).ins
    exact (re e).trans (h6.t i hi)
  · exact (re (t0 i hi).pads).trans (h6.p i hi)
  · exact (re (t0 i hi).marks).trans (h6.q i hi)
/-- the loaded bytes are changed -/
theorem HAt.put_l {l' : List Nat} {xs : List V} (h : HAt c H L d s) (ex : xs = vN l') : HAt c (upd H d.l (.lst xs)) L d { s with lo := l' } := by
  obtain ⟨⟨dx', hi⟩, h2, h3, h4, h5, h6⟩ := h
  refine ⟨⟨dx', ?_⟩, by rw [upd_same, ex], ?_, fun i hi => ⟨?_, ?_, ?_⟩, ⟨?_, ?_, h5.wf⟩, h6⟩
  · rw [upd_ne (lab_ne h6.h h6.l (by decide))]; exact hi
  · rw [upd_ne (lab_ne h6.T h6.l (by decide))]; exact h3
  · obtain ⟨x, e⟩ := (h4 i hi).ins
    exact ⟨x, by rw [upd_ne (lab_ne (h6.t i hi) h6.l (by omega))]; exact e⟩
  · rw [upd_ne (lab_ne (h6.p i hi) h6.l (by omega))]; exact (h4 i hi).pads
  · rw [upd_ne (lab_ne (h6.q i hi) h6.l (by omega))]; exact (h4 i hi).marks
  · obtain ⟨x, e⟩ := h5.ins
    exact ⟨x, by rw [upd_ne (lab_ne h6.m h6.l (by decide))]; exact e⟩
  · rw [upd_ne (lab_ne h6.mc h6.l (by decide))]; exact h5.lst
theorem tk_set {k : Nat} {t : Tak} (hk : k < s.ts.length) (j : Nat) : (s.ts.set k t).getD j tnone = if j = k then t else s.tk j := by
  rw [List.getD_eq_getElem?_getD, List.getElem?_set]
  by_cases e : j = k
  · rw [if_pos e, if_pos e.symm, if_pos hk]; rfl
  · rw [if_neg e, if_neg (fun z => e z.symm), ← List.getD_eq_getElem?_getD]; rfl
/-- a pad more in a take -/
theorem HAt.put_p {k : Nat} {ps : List Nat} {xs : List V} (h : HAt c H L d s) (hk : k < s.ts.length) (ex : xs = vN ps) : HAt c (upd H (d.p k) (.lst xs)) L d { s with ts := s.ts.set k { s.tk k with pads := ps } } := by
  obtain ⟨⟨dx', hi⟩, h2, h3, h4, h5, h6⟩ := h
  have lk := h6.p k hk
  have ln : (s.ts.set k { s.tk k with pads := ps }).length = s.ts.length := List.length_set
  refine ⟨⟨dx', ?_⟩, ?_, ?_, fun i hi => ?_, ⟨?_, ?_, h5.wf⟩, by show Lab L d (s.ts.set k _).length; rw [ln]; exact h6⟩
  · rw [upd_ne (lab_ne h6.h lk (by omega))]; exact hi
  · rw [upd_ne (lab_ne h6.l lk (by omega))]; exact h2
  · show upd H (d.p k) _ d.T = some (.lst (refs d (s.ts.set k _).length))
    rw [ln, upd_ne (lab_ne h6.T lk (by omega))]; exact h3
  · have hi' : i < s.ts.length := by rw [← ln]; exact hi
    show TakeAt c _ (d.t i) (d.p i) (d.q i) ((s.ts.set k _).getD i tnone)
    rw [tk_set hk]
    obtain ⟨x, e⟩ := (h4 i hi').ins
    by_cases e' : i = k
    · rw [if_pos e', e']
      rw [e'] at e
      exact ⟨⟨x, by rw [upd_ne (lab_ne (h6.t k hk) lk (by omega))]; exact e⟩, by rw [upd_same, ex], by rw [upd_ne (lab_ne (h6.q k hk) lk (by omega))]; exact (h4 k hk).marks⟩
    · rw [if_neg e']
      exact ⟨⟨x, by rw [upd_ne (lab_ne (h6.t i hi') lk (by omega))]; exact e⟩, by rw [upd_ne (lab_ne (h6.p i hi') lk (by omega))]; exact (h4 i hi').pads, by rw [upd_ne (lab_ne (h6.q i hi') lk (by omega))]; exact (h4 i hi').marks⟩
  · obtain ⟨x, e⟩ := h5.ins
    exact ⟨x, by rw [upd_ne (lab_ne h6.m lk (by omega))]; exact e⟩
  · rw [upd_ne (lab_ne h6.mc lk (by omega))]; exact h5.lst
/-- a mark more in a take -/
theorem HAt.put_q {k : Nat} {ms : List Nat} {xs : List V} (h : HAt c H L d s) (hk : k < s.ts.length) (ex : xs = vN ms) : HAt c (upd H (d.q k) (.lst xs)) L d { s with ts := s.ts.set k { s.tk k with marks := ms } } := by
  obtain ⟨⟨dx', hi⟩, h2, h3, h4, h5, h6⟩ := h
  have lk := h6.q k hk
  have ln : (s.ts.set k { s.tk k with marks := ms }).length = s.ts.length := List.length_set
  refine ⟨⟨dx', ?_⟩, ?_, ?_, fun i hi => ?_, ⟨?_, ?_, h5.wf⟩, by show Lab L d (s.ts.set k _).length; rw [ln]; exact h6⟩
  · rw [upd_ne (lab_ne h6.h lk (by omega))]; exact hi
  · rw [upd_ne (lab_ne h6.l lk (by omega))]; exact h2
  · show upd H (d.q k) _ d.T = some (.lst (refs d (s.ts.set k _).length))
    rw [ln, upd_ne (lab_ne h6.T lk (by omega))]; exact h3
  · have hi' : i < s.ts.length := by rw [← ln]; exact hi
    show TakeAt c _ (d.t i) (d.p i) (d.q i) ((s.ts.set k _).getD i tnone)
    rw [tk_set hk]
    obtain ⟨x, e⟩ := (h4 i hi').ins
    by_cases e' : i = k
    · rw [if_pos e', e']
      rw [e'] at e
      exact ⟨⟨x, by rw [upd_ne (lab_ne (h6.t k hk) lk (by omega))]; exact e⟩, by rw [upd_ne (lab_ne (h6.p k hk) lk (by omega))]; exact (h4 k hk).pads, by rw [upd_same, ex]⟩
    · rw [if_neg e']
      exact ⟨⟨x, by rw [upd_ne (lab_ne (h6.t i hi') lk (by omega))]; exact e⟩, by rw [upd_ne (lab_ne (h6.p i hi') lk (by omega))]; exact (h4 i hi').pads, by rw [upd_ne (lab_ne (h6.q i hi') lk (by omega))]; exact (h4 i hi').marks⟩
  · obtain ⟨x, e⟩ := h5.ins
    exact ⟨x, by rw [upd_ne (lab_ne h6.m lk (by omega))]; exact e⟩
  · rw [upd_ne (lab_ne h6.mc lk (by omega))]; exact h5.lst
/-- the marks and addresses with a new take -/
def relabT (L : Addr → Option Nat) (n : Nat) (t p q : Addr) : Addr → Option Nat := fun a => if a = t then some (5 + 3 * n) else if a = p then some (6 + 3 * n) else if a = q then some (7 + 3 * n) else L a
theorem relabT_old {n : Nat} {t p q a : Addr} (h1 : a ≠ t) (h2 : a ≠ p) (h3 : a ≠ q) : relabT L n t p q a = L a := by unfold relabT; rw [if_neg h1, if_neg h2, if_neg h3]
def Ad.more (d : Ad) (n : Nat) (t p q : Addr) : Ad := { d with t := fun i => if i = n then t else d.t i, p := fun i => if i = n then p else d.p i, q := fun i => if i = n then q else d.q i }
theorem refs_more (d : Ad) (n : Nat) (t p q : Addr) : refs (d.more n t p q) (n + 1) = refs d n ++ [V.ref t] := by
  unfold refs
  rw [List.range_succ, List.map_append]
  congr 1
  · refine List.map_congr_left fun i hi => ?_
    have : i < n := List.mem_range.mp hi
    show V.ref (if i = n then t else d.t i) = _
    rw [if_neg (by omega)]
  · show [V.ref (if n = n then t else d.t n)] = _
    rw [if_pos rfl]
theorem Fr.relabT {n : Nat} {t p q : Addr} (nt : H t = none) (np : H p = none) (nq : H q = none) : Fr L H (relabT L n t p q) H := fun a o h h1 => ⟨h, by rw [relabT_old (ne_of_none h nt) (ne_of_none h np) (ne_of_none h nq)]; exact h1⟩
/-- a new take, appended -/
theorem HAt.put_t2 {s0 : Hs} {H0 : Hp} {t p q : Addr} {k : Tak} {xs : List V} (h0 : HAt c H0 L d s0) (nt : H0 t = none) (np : H0 p = none) (nq : H0 q = none) (pq : p ≠ q) (h : HAt c H L d s) (hT : TakeAt c H t p q k) (ex : xs = refs d s.ts.length ++ [V.ref t]) (eT : s0.ts = s.ts := by rfl) :
    HAt c (upd H d.T (.lst xs)) (relabT L s.ts.length t p q) (d.more s.ts.length t p q) { s with ts := s.ts ++ [k] } := by
  obtain ⟨⟨dx', hi⟩, h2, h3, h4, h5, h6⟩ := h
  obtain ⟨⟨dx0, i0⟩, l0, T0, t0, m0, _⟩ := h0
  rw [eT] at t0
  have n0 : ∀ {a b : Addr} {u : HO}, H0 a = some u → H0 b = none → a ≠ b := fun e f => ne_of_none e f
  have re : ∀ {a : Addr} {u : HO}, H0 a = some u → relabT L s.ts.length t p q a = L a := fun e => relabT_old (n0 e nt) (n0 e np) (n0 e nq)
  have ln : (s.ts ++ [k]).length = s.ts.length + 1 := by rw [List.length_append]; rfl
  obtain ⟨mx, mi⟩ := m0.ins
  have tp : t ≠ p := by obtain ⟨x, e⟩ := hT.ins; exact ne_of e hT.pads (by intro z; cases z)
  have tq : t ≠ q := by obtain ⟨x, e⟩ := hT.ins; exact ne_of e hT.marks (by intro z; cases z)
  have tT : t ≠ d.T := (n0 T0 nt).symm
  have pT : p ≠ d.T := (n0 T0 np).symm
  have qT : q ≠ d.T := (n0 T0 nq).symm
  refine ⟨⟨dx', ?_⟩, ?_, ?_, fun i hi => ?_, ⟨?_, ?_, h5.wf⟩, ?_⟩
  · show upd H d.T _ d.h = _
    rw [upd_ne (lab_ne h6.h h6.T (by decide))]; exact hi
  · show upd H d.T _ d.l = _
    rw [upd_ne (lab_ne h6.l h6.T (by decide))]; exact h2
  · show upd H d.T _ d.T = some (.lst (refs _ (s.ts ++ [k]).length))
    rw [upd_same, ln, refs_more, ex]
  · have hi' : i < s.ts.length + 1 := by rw [← ln]; exact hi
    show TakeAt c _ (if i = s.ts.length then t else d.t i) (if i = s.ts.length then p else d.p i) (if i = s.ts.length then q else d.q i) ((s.ts ++ [k]).getD i tnone)
    rw [Hs.tk_app]
    by_cases e : i = s.ts.length
    · rw [if_pos e, if_pos e, if_pos e, if_pos e]
      obtain ⟨x, e1⟩ := hT.ins
      exact ⟨⟨x, by rw [upd_ne tT]; exact e1⟩, by rw [upd_ne pT]; exact hT.pads, by rw [upd_ne qT]; exact hT.marks⟩
    · rw [if_neg e, if_neg e, if_neg e, if_neg e]
      have hl : i < s.ts.length := by omega
      obtain ⟨x, e1⟩ := (h4 i hl).ins
      exact ⟨⟨x, by rw [upd_ne (lab_ne (h6.t i hl) h6.T (by omega))]; exact e1⟩, by rw [upd_ne (lab_ne (h6.p i hl) h6.T (by omega))]; exact (h4 i hl).pads, by rw [upd_ne (lab_ne (h6.q i hl) h6.T (by omega))]; exact (h4 i hl).marks⟩
  · obtain ⟨x, e⟩ := h5.ins
    exact ⟨x, by show upd H d.T _ d.m = _; rw [upd_ne (lab_ne h6.m h6.T (by decide))]; exact e⟩
  · show upd H d.T _ d.mc = _
    rw [upd_ne (lab_ne h6.mc h6.T (by decide))]; exact h5.lst
  · show Lab _ _ (s.ts ++ [k]).length
    rw [ln]
    refine ⟨(re i0).trans h6.h, (re l0).trans h6.l, (re T0).trans h6.T, (re mi).trans h6.m, (re m0.lst).trans h6.mc, fun i hi => ?_, fun i hi => ?_, fun i hi => ?_⟩
    · show relabT L _ t p q (if i = s.ts.length then t else d.t i) = _
      by_cases e : i = s.ts.length
      · rw [if_pos e, e]; unfold relabT; rw [if_pos rfl]
      · rw [if_neg e]
        obtain ⟨x, e1⟩ := (t0 i (by omega)).ins
        exact (re e1).trans (h6.t i (by omega))
    · show relabT L _ t p q (if i = s.ts.length then p else d.p i) = _
      by_cases e : i = s.ts.length
      · rw [if_pos e, e]; unfold relabT; rw [if_neg tp.symm, if_pos rfl]
      · rw [if_neg e]
        exact (re (t0 i (by omega)).pads).trans (h6.p i (by omega))
    · show relabT L _ t p q (if i = s.ts.length then q else d.q i) = _
      by_cases e : i = s.ts.length
      · rw [if_pos e, e]; unfold relabT; rw [if_neg tq.symm, if_neg pq.symm, if_pos rfl]
      · rw [if_neg e]
        exact (re (t0 i (by omega)).marks).trans (h6.q i (by omega))
end
end Tk
-- the part TkTakes2
set_option maxRecDepth 100000
set_option maxHeartbeats 4000000
namespace Tk
open PySem PySem.Spec PyProof.Rows L2
open CsBase (Mach byteAt put inA inX opAt rests upTo frame frames loaded told mark)

/-! ### slices -/
theorem vN_take (l : List Nat) (n : Nat) : (vN l).take n = vN (l.take n) := by unfold vN; rw [List.map_take]
theorem vN_drop (l : List Nat) (n : Nat) : (vN l).drop n = vN (l.drop n) := by unfold vN; rw [List.map_drop]
theorem take_min {α : Type} (l : List α) (n : Nat) : l.take (min n l.length) = l.take n := by
  by_cases h : n ≤ l.length
  · rw [Nat.min_eq_left h]
  · rw [Nat.min_eq_right (by omega), List.take_length, List.take_of_length_le (by omega)]
theorem cut_take (l : List Nat) (n : Nat) : cutV (vN l) none (some (n : Int)) = vN (l.take n) := by
  unfold cutV
  rw [HT.sIx_nat, HT.sIx_none, List.drop_zero, Nat.sub_zero, vN_len, vN_take, take_min]
theorem cut_mid (l : List Nat) (a n : Nat) (h : a ≤ l.length) : cutV (vN l) (some (a : Int)) (some ((a + n : Nat) : Int)) = vN ((l.drop a).take n) := by
  unfold cutV
  rw [HT.sIx_nat, HT.sIx_nat, vN_len, Nat.min_eq_left h, vN_drop, vN_take]
  congr 1
  have : min (a + n) l.length - a = min n (l.drop a).length := by rw [List.length_drop]; omega
  rw [this, take_min]
theorem take_next {l : List Nat} {i z : Nat} (h : l[i]? = some z) : l.take (i + 1) = l.take i ++ [z] := by
  rw [List.take_add_one, h]; rfl
theorem frames_next {M : Mach} {l : List Nat} {i z : Nat} (h : l[i]? = some z) : frames M (l.take (i + 1)) = frame (frames M (l.take i)) z := by
  rw [take_next h, frames_append]; rfl
theorem of_vN {l : List Nat} {i : Nat} {y : V} (h : (vN l)[i]? = some y) : ∃ z, l[i]? = some z ∧ y = V.int (z : Int) := by
  unfold vN at h
  rw [List.getElem?_map] at h
  cases e : l[i]? with
  | none => rw [e] at h; cases h
  | some z => rw [e] at h; exact ⟨z, rfl, (Option.some.inj h).symm⟩

/-! ### promises -/
def spTInit (c : Cs) : Sp := fun vs H Q _ => ∃ (x dx p q : Addr) (par : Int) (ahd : Nat), vs = [.ref x, .int par, .int (ahd : Int), .ref p, .ref q] ∧ H x = some (.ins c.T dx []) ∧
  ∀ H', (∃ dx, H' x = some (.ins c.T dx (tF par ahd p q))) → (∀ b o, H b = some o → b ≠ x → H' b = some o) → Q .non H'
theorem onMakeT {c : Cs} {H : Hp} {par : Int} {ahd : Nat} {p q : Addr} {R : Addr → Hp → Prop} {E : XK} (k : ∀ x H2, H x = none → (∃ dx, H2 x = some (.ins c.T dx (tF par ahd p q))) → Same H H2 → R x H2) :
    ∀ x dx, H x = none → H dx = none → dx ≠ x → spTInit c (.ref x :: ([.int par, .int (ahd : Int), .ref p, .ref q] ++ [])) (upd (upd H dx (.own x)) x (.ins c.T dx [])) (fun v H2 => v = .non ∧ R x H2) E := fun x dx nx nd ne =>
  ⟨x, dx, p, q, par, ahd, rfl, upd_same, fun H' hi kp => ⟨rfl, k x H' nx hi (Same.made nx nd kp)⟩⟩
def spAhead (c : Cs) : Sp := fun vs H Q _ => ∃ (L : Addr → Option Nat) (d : Ad) (s : Hs) (k t : Nat), vs = [.ref d.h, .ref (d.t k), .int (t : Int)] ∧ HAt c H L d s ∧ Fine s ∧ k < s.ts.length ∧
  ∀ x xc H', H x = none → H xc = none → MachAt c H' x xc (ahead s (s.tk k) t) → Same H H' → Q (.ref x) H'
def spGoTo (c : Cs) : Sp := fun vs H Q _ => ∃ (L : Addr → Option Nat) (d : Ad) (s : Hs) (k t : Nat), vs = [.ref d.h, .int (k : Int), .int (t : Int)] ∧ HAt c H L d s ∧ Fine s ∧ k < s.ts.length ∧
  ∀ H' L' d', d'.h = d.h → HAt c H' L' d' (goTo s k t) → Fr L H L' H' → Q .non H'
def spPlayOn (c : Cs) : Sp := fun vs H Q _ => ∃ (L : Addr → Option Nat) (d : Ad) (s : Hs) (n : Nat), vs = [.ref d.h, .int (n : Int)] ∧ HAt c H L d s ∧ Good s ∧
  ∀ H', HAt c H' L d (playOn s n) → Fr L H L H' → Q .non H'
def spPlayPad (c : Cs) : Sp := fun vs H Q _ => ∃ (L : Addr → Option Nat) (d : Ad) (s : Hs) (v : Nat), vs = [.ref d.h, .int (v : Int)] ∧ HAt c H L d s ∧ Good s ∧ v < 256 ∧
  ∀ H' L' d', d'.h = d.h → HAt c H' L' d' (playPad s v) → Fr L H L' H' → Q .non H'
def spDiff (c : Cs) : Sp := fun vs H Q _ => ∃ (t p q t2 p2 q2 : Addr) (k k2 : Tak), vs = [.ref t, .ref t2] ∧ TakeAt c H t p q k ∧ TakeAt c H t2 p2 q2 k2 ∧ GoodT k ∧ Q (.int (Cs05.parts k.pads k2.pads 0 : Int)) H
/-- -1 for none -/
def orM1 (o : Option Nat) : Int := match o with
  | none => -1
  | some n => (n : Int)
def spUnlike (c : Cs) : Sp := fun vs H Q _ => ∃ (L : Addr → Option Nat) (d : Ad) (s : Hs) (i j : Nat), vs = [.ref d.h, .ref (d.t i), .ref (d.t j)] ∧ HAt c H L d s ∧ Fine s ∧ i < s.ts.length ∧ j < s.ts.length ∧
  ∀ H', Same H H' → Q (.int (orM1 (Cs05.partsAt (loaded s.lo) (loaded s.lo) (s.tk i).pads (s.tk j).pads 0))) H'
def spFree (c : Cs) : Sp := fun vs H Q _ => ∃ (L : Addr → Option Nat) (d : Ad) (s : Hs) (t : Nat), vs = [.ref d.h, .int (t : Int)] ∧ HAt c H L d s ∧ Good s ∧ t < s.cur.pads.length ∧
  ∀ H', Same H H' → Q (.int (Cs05.free (ahead s s.cur t) (s.cur.pads.getD t 0) : Int)) H'
def spStray (c : Cs) : Sp := fun vs H Q _ => ∃ (L : Addr → Option Nat) (d : Ad) (s : Hs) (k : Nat), vs = [.ref d.h, .ref (d.t k)] ∧ HAt c H L d s ∧ Fine s ∧ k < s.ts.length ∧
  ∀ H', Same H H' → Q (.int (orM1 (Cs05.strays (loaded s.lo) ((s.tk k).pads.zip (s.tk k).marks) 0))) H'
section
variable {P : Program} {w : World} {K : PySem.W.Frag} {mg : Str → Option Value} {base : Heap} {c : Cs}
theorem c_Take_init (T : Txt K mg c) : CalM P w K mg base c.T 1 "Take" ["self", "parent", "ahead", "pads", "marks"] (spTInit c) := by
  refine T.i_Take.ok sc_Take_init (fun vs H Q E h => ?_) (fun f cdv A outer s H vs Q E hr h => ⟨_, (pss_cons (ps_fld (pv 0) (pv 1) rfl) (pss_cons (ps_fld (pv 0) (pv 2) rfl) (pss_cons (ps_fld (pv 0) (pv 3) rfl) (pss_one (ps_fld (pv 0) (pv 4) rfl))))), ?_⟩)
  · obtain ⟨x, dx, p, q, par, ahd, rfl, _⟩ := h; rfl
  · obtain ⟨x, dx, p, q, par, ahd, rfl, hx, k⟩ := h
    refine ⟨_, rfl, _, rfl, x, c.T, dx, [], rfl, hx, T.clT, T.noT_parent, (by show 0 < 1000; decide), ?_⟩
    refine ⟨_, rfl, _, rfl, x, c.T, dx, _, rfl, upd_same, T.clT, T.noT_ahead, (by show 1 < 1000; decide), ?_⟩
    refine ⟨_, rfl, _, rfl, x, c.T, dx, _, rfl, upd_same, T.clT, T.noT_pads, (by show 2 < 1000; decide), ?_⟩
    refine ⟨_, rfl, _, rfl, x, c.T, dx, _, rfl, upd_same, T.clT, T.noT_marks, (by show 3 < 1000; decide), ?_⟩
    rw [upd_upd, upd_upd, upd_upd, tF_new par ahd p q]
    exact k _ ⟨dx, upd_same⟩ fun b o e ne => by rw [upd_ne ne]; exact e
theorem c_machine_ahead (T : Txt K mg c) : Cal P w K mg base CX0 5 "machine_ahead" ["house", "take", "t"] (spAhead c) := by
  refine T.d_machine_ahead.ok sc_machine_ahead (fun vs H Q E h => ?_) (fun q f cdv A outer s H vs Q E hr h => ⟨_, (pss_cons (ps_set (i := 3) sc_machine_ahead.nd rfl (Or.inl rfl) (pc_make (c_Machine_init T) (hr.mono (by decide)) (by rfl) pass0 (pa_cons (pe_fld (pv 0) rfl) pa_nil))) (pss_cons (ps_for PassesOwn.never rfl (pi_list (pe_slice sl_list (pe_fld (pv 1) rfl) po_none (po_some (pv 2)))) (pg_name (i := 4) sc_machine_ahead.nd rfl (Or.inl rfl)) (pss_one (ps_expr (pc_call (c_run_frame T) (hr.mono (by decide)) (by rfl) pass0 (pa_cons (pv 3) (pa_cons (pv 4) pa_nil)))))) (pss_one (ps_ret (pv 3))))), ?_⟩)
  · obtain ⟨L, d, s, k, t, rfl, _⟩ := h; rfl
  · obtain ⟨L, d, s, k, t, rfl, hH, gF, hk, kk⟩ := h
    obtain ⟨dx, hi⟩ := hH.ins
    obtain ⟨tx, ti⟩ := (hH.tk k hk).ins
    have hp := (hH.tk k hk).pads
    have gb := (gF.tk hk).bytes
    refine seq_set (make_ev (fun Q' q => ⟨_, rfl, d.h, c.H, dx, _, _, rfl, hi, T.clH, T.noH_loaded, hF_loaded _ _ _ _ _, q⟩) (SqL.of hH.lo) gF.lo gF.bytes fun x xc H1 nx nxc h1 s1 => ?_)
    refine ⟨_, rfl, d.t k, c.T, tx, _, _, rfl, s1 _ _ ti, T.clT, T.noT_pads, tF_pads _ _ _ _, _, rfl, _, rfl, d.p k, _, rfl, SqL.of (s1 _ _ hp), fun p2 hp2 => ?_⟩
    rw [cut_take]
    have s2 : Same H1 (upd H1 p2 (.lst (vN ((s.tk k).pads.take t)))) := Same.new hp2
    have h2 := h1.same s2
    refine ⟨p2, rfl, ⟨_, SqL.of upd_same⟩, for_list (K := K) (a := p2) (xs := vN ((s.tk k).pads.take t)) (fun i σ H' => ∃ v, σ = [some (.ref d.h), some (.ref (d.t k)), some (.int (t : Int)), some (.ref x), v] ∧ MachAt c H' x xc (frames (mk0 s.lo) (((s.tk k).pads.take t).take i)) ∧ Off x xc (upd H1 p2 (.lst (vN ((s.tk k).pads.take t)))) H')
      ⟨none, rfl, h2, Off.refl _ _ _⟩ (fun i σ H' _ ⟨v, _, _, o⟩ => SqL.of (o _ _ upd_same ?_ ?_)) ?_ ?_⟩
    · obtain ⟨y, e⟩ := h1.ins; exact (ne_of_none e hp2).symm
    · exact (ne_of_none h1.lst hp2).symm
    · rintro i y σ H' hi' ⟨v, rfl, hM, o⟩
      obtain ⟨z, hz, rfl⟩ := of_vN hi'
      have hzb : z < 256 := gb z (List.mem_of_mem_take (List.mem_of_getElem? hz))
      refine ⟨_, rfl, _, rfl, x, xc, _, z, rfl, hM, hzb, fun H3 h3 o3 => ?_⟩
      exact ⟨some (.int (z : Int)), rfl, by rw [frames_next hz]; exact h3, o.trans o3⟩
    · rintro σ H' ⟨v, rfl, hM, o⟩
      refine ⟨_, rfl, ?_⟩
      rw [vN_len, List.take_length, ← mk0_loaded gF.lo gF.bytes] at hM
      exact kk x xc H' nx nxc hM fun b u e => o b u (s2 _ _ (s1 _ _ e)) (ne_of_none e nx) (ne_of_none e nxc)
theorem c_go_to (T : Txt K mg c) : Cal P w K mg base CX0 6 "go_to" ["house", "here", "played"] (spGoTo c) := by
  refine T.d_go_to.ok sc_go_to (fun vs H Q E h => ?_) (fun q f cdv A outer s H vs Q E hr h => ⟨_, (pss_cons (ps_fld (pv 0) (pv 1) rfl) (pss_cons (ps_fld (pv 0) (pv 2) rfl) (pss_one (ps_fld (pv 0) (pc_call (c_machine_ahead T) (hr.mono (by decide)) (by rfl) pass0 (pa_cons (pv 0) (pa_cons (pe_ix ix_list (pe_fld (pv 0) rfl) (pv 1) (fun _ _ => rfl)) (pa_cons (pv 2) pa_nil)))) rfl)))), ?_⟩)
  · obtain ⟨L, d, s, k, t, rfl, _⟩ := h; rfl
  · obtain ⟨L, d, s, k, t, rfl, hH, gF, hk, kk⟩ := h
    obtain ⟨dx, hi⟩ := hH.ins
    refine ⟨_, rfl, _, rfl, d.h, c.H, dx, _, rfl, hi, T.clH, T.noH_here, few5, ?_⟩
    have h1 := hH.put_h (dx := dx) k s.pl (hF_put_here d.l d.T d.m s.here s.pl k)
    have f1 : Fr L H L (upd H d.h (.ins c.H dx (putF "here" (.int (k : Int)) (hF d.l d.T d.m s.here s.pl)))) := Fr.store hH.lab.h
    refine ⟨_, rfl, _, rfl, d.h, c.H, dx, _, rfl, upd_same, T.clH, T.noH_played, (by rw [hF_put_here]; exact few5), ?_⟩
    have h2 := h1.put_h (dx := dx) k t (by show putF "played" (.int (t : Int)) (putF "here" (.int (k : Int)) (hF d.l d.T d.m s.here s.pl)) = _; rw [hF_put_here, hF_put_played])
    have f2 := f1.trans (Fr.store (o := .ins c.H dx (putF "played" (.int (t : Int)) (putF "here" (.int (k : Int)) (hF d.l d.T d.m s.here s.pl)))) hH.lab.h)
    generalize hH2 : upd (upd H d.h (.ins c.H dx (putF "here" (.int (k : Int)) (hF d.l d.T d.m s.here s.pl)))) d.h (.ins c.H dx (putF "played" (.int (t : Int)) (putF "here" (.int (k : Int)) (hF d.l d.T d.m s.here s.pl)))) = H2 at h2 f2
    obtain ⟨dx2, i2⟩ := h2.ins
    have fine2 : Fine { s with here := k, pl := t } := ⟨gF.lo, gF.bytes, gF.most, gF.tks⟩
    refine ⟨_, rfl, _, rfl, d.h, c.H, dx2, _, _, rfl, i2, T.clH, T.noH_takes, hF_takes _ _ _ _ _, _, rfl, d.T, _, _, _, rfl, rfl, SqL.of h2.tks, atI_nat (refs_get hk), _, rfl, L, d, { s with here := k, pl := t }, k, t, rfl, h2, fine2, hk, fun x xc H3 nx nxc h3 s3 => ?_⟩
    refine ⟨_, rfl, d.h, c.H, dx2, _, rfl, s3 _ _ i2, T.clH, T.noH_machine, few5, ?_⟩
    have h4 := h2.put_m (dx := dx2) nx nxc s3 h3 (hF_put_machine d.l d.T d.m k t x)
    refine kk _ _ { d with m := x, mc := xc } rfl h4 ?_
    exact f2.trans ((Fr.relab nx nxc).trans ((Fr.same s3).trans (Fr.store (i := 0) (by
      obtain ⟨y, e⟩ := h2.ins
      rw [relab_old (ne_of_none e nx) (ne_of_none e nxc)]; exact hH.lab.h))))
theorem c_play_on (T : Txt K mg c) : Cal P w K mg base CX0 5 "play_on" ["house", "many"] (spPlayOn c) := by
  refine T.d_play_on.ok sc_play_on (fun vs H Q E h => ?_) (fun q f cdv A outer s H vs Q E hr h => ⟨_, (pss_cons (ps_set (i := 2) sc_play_on.nd rfl (Or.inl rfl) (pe_fld (pe_ix ix_list (pe_fld (pv 0) rfl) (pe_fld (pv 0) rfl) (fun _ _ => rfl)) rfl)) (pss_one (ps_for PassesOwn.never rfl (pi_list (pe_slice sl_list (pv 2) (po_some (pe_fld (pv 0) rfl)) (po_some (pe_op op_add (pe_fld (pv 0) rfl) (pv 1))))) (pg_name (i := 3) sc_play_on.nd rfl (Or.inl rfl)) (pss_cons (ps_expr (pc_call (c_run_frame T) (hr.mono (by decide)) (by rfl) pass0 (pa_cons (pe_fld (pv 0) rfl) (pa_cons (pv 3) pa_nil)))) (pss_one (ps_fld (pv 0) (pe_op op_add (pe_fld (pv 0) rfl) pe_int) rfl)))))), ?_⟩)
  · obtain ⟨L, d, s, n, rfl, _⟩ := h; rfl
  · obtain ⟨L, d, s, n, rfl, hH, g, kk⟩ := h
    obtain ⟨dx, hi⟩ := hH.ins
    obtain ⟨tx, ti⟩ := (hH.tk s.here g.here).ins
    have hp := (hH.tk s.here g.here).pads
    refine ⟨_, rfl, d.h, c.H, dx, _, _, rfl, hi, T.clH, T.noH_takes, hF_takes _ _ _ _ _, _, rfl, d.h, c.H, dx, _, _, rfl, hi, T.clH, T.noH_here, hF_here _ _ _ _ _, d.T, _, _, _, rfl, rfl, SqL.of hH.tks, atI_nat (refs_get g.here), d.t s.here, c.T, tx, _, _, rfl, ti, T.clT, T.noT_pads, tF_pads _ _ _ _, ?_⟩
    refine ⟨_, rfl, _, rfl, d.h, c.H, dx, _, _, rfl, hi, T.clH, T.noH_played, hF_played _ _ _ _ _, _, rfl, _, rfl, d.h, c.H, dx, _, _, rfl, hi, T.clH, T.noH_played, hF_played _ _ _ _ _, _, rfl, _, _, rfl, rfl, _, rfl, d.p s.here, _, rfl, SqL.of hp, fun p2 hp2 => ?_⟩
    have ec : cutV (vN (s.tk s.here).pads) (some (s.pl : Int)) (some ((s.pl : Int) + (n : Int))) = vN ((s.cur.pads.drop s.pl).take n) := cut_mid s.cur.pads s.pl n g.pl
    have s2 : Same H (upd H p2 (.lst (vN ((s.cur.pads.drop s.pl).take n)))) := Same.new hp2
    obtain ⟨l, hl⟩ : ∃ l, l = (s.cur.pads.drop s.pl).take n := ⟨_, rfl⟩
    have lb : ∀ z ∈ l, z < 256 := fun z hz => g.cur.bytes z (List.mem_of_mem_drop (List.mem_of_mem_take (by rw [← hl]; exact hz)))
    rw [ec, ← hl]
    rw [← hl] at s2
    have h2 := hH.same s2
    refine ⟨p2, rfl, ⟨_, SqL.of upd_same⟩, for_list (K := K) (a := p2) (xs := vN l) (fun i σ H' => ∃ v, σ = [some (.ref d.h), some (.int (n : Int)), some (.ref (d.p s.here)), v] ∧ HAt c H' L d { s with pl := s.pl + i, m := frames s.m (l.take i) } ∧ Fr L H L H' ∧ H' p2 = some (.lst (vN l)))
      ⟨none, rfl, h2, Fr.same s2, upd_same⟩ (fun i σ H' _ ⟨v, _, _, _, e⟩ => SqL.of e) ?_ ?_⟩
    · rintro i y σ H' hi' ⟨v, rfl, h', f', e'⟩
      obtain ⟨z, hz, rfl⟩ := of_vN hi'
      obtain ⟨dx', i'⟩ := h'.ins
      have li : i < l.length := (List.getElem?_eq_some_iff.mp hz).1
      refine ⟨_, rfl, d.h, c.H, dx', _, _, rfl, i', T.clH, T.noH_machine, hF_machine _ _ _ _ _, _, rfl, d.m, d.mc, _, z, rfl, h'.mach, lb z (List.mem_of_getElem? hz), fun H3 h3 o3 => ?_⟩
      have h4 := h'.run h3 o3
      obtain ⟨dx4, i4⟩ := h4.ins
      have f4 := f'.trans (Fr.off hH.lab.m hH.lab.mc o3)
      have e4 : H3 p2 = some (.lst (vN l)) := o3 _ _ e' (by
        obtain ⟨y, e⟩ := hH.mach.ins; exact (ne_of_none e hp2).symm) (ne_of_none hH.mach.lst hp2).symm
      refine ⟨_, rfl, d.h, c.H, dx4, _, _, rfl, i4, T.clH, T.noH_played, hF_played _ _ _ _ _, _, _, rfl, rfl, _, rfl, d.h, c.H, dx4, _, rfl, i4, T.clH, T.noH_played, few5, ?_⟩
      refine ⟨some (.int (z : Int)), rfl, ?_, f4.trans (Fr.store hH.lab.h), ?_⟩
      · have h5 := h4.put_h (dx := dx4) s.here (s.pl + (i + 1)) (fs := putF "played" (.int (((s.pl + i : Nat) : Int) + 1)) (hF d.l d.T d.m s.here (s.pl + i))) (hF_put_played _ _ _ _ _ (s.pl + (i + 1)))
        rw [frames_next hz]
        exact h5
      · rw [upd_ne (by obtain ⟨y, e⟩ := hH.ins; exact (ne_of_none e hp2).symm)]; exact e4
    · rintro σ H' ⟨v, rfl, h', f', e'⟩
      rw [vN_len, List.take_length, hl] at h'
      exact kk H' h' f'
end
end Tk
-- the part TkTakes3
set_option maxRecDepth 100000
set_option maxHeartbeats 4000000
namespace Tk
open PySem PySem.Spec PyProof.Rows L2
open CsBase (Mach byteAt put inA inX opAt rests upTo frame frames loaded told mark)

/-- a take's pad and mark more, in the mirror -/
theorem set_pads_marks {s : Hs} {k : Nat} (hk : k < s.ts.length) (v n : Nat) :
    ({ s with ts := s.ts.set k { s.tk k with pads := (s.tk k).pads ++ [v] } } : Hs).ts.set k { ({ s with ts := s.ts.set k { s.tk k with pads := (s.tk k).pads ++ [v] } } : Hs).tk k with marks := (({ s with ts := s.ts.set k { s.tk k with pads := (s.tk k).pads ++ [v] } } : Hs).tk k).marks ++ [n] } = s.ts.set k ((s.tk k).more v n) := by
  have e : (({ s with ts := s.ts.set k { s.tk k with pads := (s.tk k).pads ++ [v] } } : Hs).tk k) = { s.tk k with pads := (s.tk k).pads ++ [v] } := by
    show (s.ts.set k _).getD k tnone = _
    rw [tk_set hk, if_pos rfl]
  rw [e]
  show (s.ts.set k _).set k _ = _
  rw [List.set_set]
  rfl
theorem set_end {α : Type} (l : List α) (x y : α) : (l ++ [x]).set l.length y = l ++ [y] := by
  rw [List.set_append_right _ _ (Nat.le_refl _), Nat.sub_self]; rfl
/-- what a loop asks of one that turns n times: Pv before each turn, Pv n behind the last -/
theorem for_count {It : It} {g : TG} {tb : TS} {D : Ends} {σ : L2.St} {H : Hp} (n : Nat) (Pv : Nat → L2.St → Hp → Prop) (start : Pv 0 σ H) (last : ∀ σ H, Pv n σ H → It.stop n H ∧ D.nx σ H)
    (turn : ∀ i σ H, i < n → Pv i σ H → It.go i H ∧ ∀ v H', It.yld i H v H' → g v σ H' fun τ G => tb { D with nx := Pv (i + 1), ct := Pv (i + 1), bk := D.nx } τ G) :
    ∃ W : Nat → Nat → L2.St → Hp → Prop, (∃ m, W 0 m σ H) ∧
      ∀ i m σ H, W i m σ H → (It.stop i H ∧ D.nx σ H) ∨ (It.go i H ∧ ∃ N : L2.St → Hp → Prop, (∀ τ G, N τ G → ∃ k, k < m ∧ W (i + 1) k τ G) ∧
        ∀ v H', It.yld i H v H' → g v σ H' fun τ G => tb { D with nx := N, ct := N, bk := D.nx } τ G) := by
  refine ⟨fun i left τ G => i + left = n ∧ Pv i τ G, ⟨n, Nat.zero_add n, start⟩, ?_⟩
  rintro i left τ G ⟨sum, p⟩
  match left, sum with
  | 0, sum => cases sum; exact .inl (last τ G p)
  | k + 1, sum => exact .inr ((turn i τ G (by omega) p).imp id fun t => ⟨Pv (i + 1), fun _ _ z => ⟨k, Nat.lt_succ_self k, by omega, z⟩, t⟩)
/-- over two lists, as far as both go -/
theorem for_zip2 {K : PySem.W.Frag} {a b : Addr} {xs ys : List V} {g : TG} {tb : TS} {D : Ends} {σ : L2.St} {H : Hp} (Pv : Nat → L2.St → Hp → Prop) (h0 : Pv 0 σ H) (hq : ∀ i σ H, Pv i σ H → SqL K H a xs ∧ SqL K H b ys)
    (hs : ∀ (i : Nat) (x y : V) (T : Addr) (σ : L2.St) (H : Hp), xs[i]? = some x → ys[i]? = some y → Pv i σ H → H T = none → g (.ref T) σ (upd H T (.tup [x, y])) fun τ G => tb { D with nx := Pv (i + 1), ct := Pv (i + 1), bk := D.nx } τ G) (hd : ∀ σ H, Pv (min xs.length ys.length) σ H → D.nx σ H) :
    ∃ W : Nat → Nat → L2.St → Hp → Prop, (∃ m, W 0 m σ H) ∧
      ∀ i m σ H, W i m σ H → ((Itz K a b).stop i H ∧ D.nx σ H) ∨ ((Itz K a b).go i H ∧ ∃ N : L2.St → Hp → Prop, (∀ τ G, N τ G → ∃ k, k < m ∧ W (i + 1) k τ G) ∧
        ∀ v H', (Itz K a b).yld i H v H' → g v σ H' fun τ G => tb { D with nx := N, ct := N, bk := D.nx } τ G) := by
  refine for_count (It := Itz K a b) (min xs.length ys.length) Pv h0 (fun τ G p => ⟨⟨xs, ys, (hq _ τ G p).1, (hq _ τ G p).2, by omega⟩, hd τ G p⟩) fun i τ G hi p => ?_
  obtain ⟨qx, qy⟩ := hq i τ G p
  have gx : xs[i]? = some (xs[i]'(by omega)) := List.getElem?_eq_getElem (by omega)
  have gy : ys[i]? = some (ys[i]'(by omega)) := List.getElem?_eq_getElem (by omega)
  refine ⟨⟨xs, ys, _, _, qx, qy, gx, gy⟩, ?_⟩
  rintro v G' ⟨T, x, y, rfl, free, rfl, ex, ey⟩
  exact hs i x y T τ G (ex xs qx) (ey ys qy) p free
/-- over a list, each item with its place -/
theorem for_enum2 {K : PySem.W.Frag} {a : Addr} {xs : List V} {g : TG} {tb : TS} {D : Ends} {σ : L2.St} {H : Hp} (Pv : Nat → L2.St → Hp → Prop) (h0 : Pv 0 σ H) (hq : ∀ i σ H, Pv i σ H → SqL K H a xs)
    (hs : ∀ (i : Nat) (x : V) (T : Addr) (σ : L2.St) (H : Hp), xs[i]? = some x → Pv i σ H → H T = none → g (.ref T) σ (upd H T (.tup [.int (i : Nat), x])) fun τ G => tb { D with nx := Pv (i + 1), ct := Pv (i + 1), bk := D.nx } τ G) (hd : ∀ σ H, Pv xs.length σ H → D.nx σ H) :
    ∃ W : Nat → Nat → L2.St → Hp → Prop, (∃ m, W 0 m σ H) ∧
      ∀ i m σ H, W i m σ H → ((Ite K a).stop i H ∧ D.nx σ H) ∨ ((Ite K a).go i H ∧ ∃ N : L2.St → Hp → Prop, (∀ τ G, N τ G → ∃ k, k < m ∧ W (i + 1) k τ G) ∧
        ∀ v H', (Ite K a).yld i H v H' → g v σ H' fun τ G => tb { D with nx := N, ct := N, bk := D.nx } τ G) := by
  refine for_count (It := Ite K a) xs.length Pv h0 (fun τ G p => ⟨⟨xs, hq _ τ G p, Nat.le_refl _⟩, hd τ G p⟩) fun i τ G hi p => ?_
  refine ⟨⟨xs, xs[i], hq i τ G p, List.getElem?_eq_getElem hi⟩, ?_⟩
  rintro v G' ⟨T, x, rfl, free, rfl, ex⟩
  exact hs i x T τ G (ex xs (hq i τ G p)) p free
theorem drop_at {l : List Nat} {i z : Nat} (h : l[i]? = some z) : l.drop i = z :: l.drop (i + 1) := by
  obtain ⟨hl, e⟩ := List.getElem?_eq_some_iff.mp h
  rw [List.drop_eq_getElem_cons hl, e]
section
variable {P : Program} {w : World} {K : PySem.W.Frag} {mg : Str → Option Value} {base : Heap} {c : Cs}
theorem c_play_pad (T : Txt K mg c) : Cal P w K mg base CX0 5 "play_pad" ["house", "pad"] (spPlayPad c) := by
  refine T.d_play_pad.ok sc_play_pad (fun vs H Q E h => ?_) (fun q f cdv A outer s H vs Q E hr h => ⟨_, (pss_cons (ps_set (i := 2) sc_play_pad.nd rfl (Or.inl rfl) (pe_ix ix_list (pe_fld (pv 0) rfl) (pe_fld (pv 0) rfl) (fun _ _ => rfl))) (pt_cut (ps_if (pt_cmpR op_lt (pe_fld (pv 0) rfl) (pe_callB call_len_seq (by rfl) T.n_len PySem.boot_len (pa_cons (pe_fld (pv 2) rfl) pa_nil)) (nomark _)) (pss_cons (ps_set (i := 3) sc_play_pad.nd rfl (Or.inl rfl) (pc_make (c_Take_init T) (hr.mono (by decide)) (by rfl) pass0 (pa_cons (pe_fld (pv 0) rfl) (pa_cons (pe_fld (pv 0) rfl) (pa_cons (pe_slice sl_list (pe_fld (pv 2) rfl) po_none (po_some (pe_fld (pv 0) rfl))) (pa_cons (pe_slice sl_list (pe_fld (pv 2) rfl) po_none (po_some (pe_fld (pv 0) rfl))) pa_nil)))))) (pss_cons (ps_fld (pv 0) (pe_callB call_len_seq (by rfl) T.n_len PySem.boot_len (pa_cons (pe_fld (pv 0) rfl) pa_nil)) rfl) (pss_cons (ps_expr (pe_bm PySem.F.plainAttrs_list PySem.F.slot_list_append PySem.F.type_list_append mt_append (pe_fld (pv 0) rfl) (pa_cons (pv 3) pa_nil))) (pss_one (ps_set (i := 2) sc_play_pad.nd rfl (Or.inl rfl) (pv 3)))))) pss_nil) (pss_cons (ps_expr (pc_call (c_run_frame T) (hr.mono (by decide)) (by rfl) pass0 (pa_cons (pe_fld (pv 0) rfl) (pa_cons (pv 1) pa_nil)))) (pss_cons (ps_expr (pe_bm PySem.F.plainAttrs_list PySem.F.slot_list_append PySem.F.type_list_append mt_append (pe_fld (pv 2) rfl) (pa_cons (pv 1) pa_nil))) (pss_cons (ps_expr (pe_bm PySem.F.plainAttrs_list PySem.F.slot_list_append PySem.F.type_list_append mt_append (pe_fld (pv 2) rfl) (pa_cons (pc_call (c_mark_of T) (hr.mono (by decide)) (by rfl) pass0 (pa_cons (pe_fld (pv 0) rfl) pa_nil)) pa_nil))) (pss_one (ps_fld (pv 0) (pe_op op_add (pe_fld (pv 0) rfl) pe_int) rfl))))))), ?_⟩)
  · obtain ⟨L, d, s, v, rfl, _⟩ := h; rfl
  · obtain ⟨L, d, s, v, rfl, hH, g, hv, kk⟩ := h
    obtain ⟨dx, hi⟩ := hH.ins
    obtain ⟨tx, ti⟩ := (hH.tk s.here g.here).ins
    have hp := (hH.tk s.here g.here).pads
    have hq := (hH.tk s.here g.here).marks
    refine ⟨_, rfl, d.h, c.H, dx, _, _, rfl, hi, T.clH, T.noH_takes, hF_takes _ _ _ _ _, _, rfl, d.h, c.H, dx, _, _, rfl, hi, T.clH, T.noH_here, hF_here _ _ _ _ _, d.T, _, _, _, rfl, rfl, SqL.of hH.tks, atI_nat (refs_get g.here), ?_⟩
    refine ⟨fun σ' H' => ∃ (L' : Addr → Option Nat) (d' : Ad) (s' : Hs) (v3 : Option V), σ' = [some (.ref d'.h), some (.int (v : Int)), some (.ref (d'.t s'.here)), v3] ∧ d'.h = d.h ∧ HAt c H' L' d' s' ∧ Fr L H L' H' ∧ s'.here < s'.ts.length ∧ s'.m = s.m ∧ s'.pl = s.pl ∧ GoodT (s'.tk s'.here) ∧
      playPad s v = { s' with ts := s'.ts.set s'.here ((s'.tk s'.here).more v (mark (frame s.m v))), pl := s.pl + 1, m := frame s.m v }, ?_, ?_⟩
    · refine ⟨_, rfl, d.h, c.H, dx, _, _, rfl, hi, T.clH, T.noH_played, hF_played _ _ _ _ _, _, rfl, d.t s.here, c.T, tx, _, _, rfl, ti, T.clT, T.noT_pads, tF_pads _ _ _ _, d.p s.here, _, rfl, .inl (SqL.of hp), _, _, rfl, rfl, _, rfl, ?_⟩
      rw [vN_len]
      by_cases cc : s.pl < s.cur.pads.length
      · refine itT (decide_eq_true (show (s.pl : Int) < ((s.tk s.here).pads.length : Int) from by have : s.pl < (s.tk s.here).pads.length := cc; omega)) ?_
        refine ⟨_, rfl, d.h, c.H, dx, _, _, rfl, hi, T.clH, T.noH_here, hF_here _ _ _ _ _, _, rfl, d.h, c.H, dx, _, _, rfl, hi, T.clH, T.noH_played, hF_played _ _ _ _ _,
          _, rfl, d.t s.here, c.T, tx, _, _, rfl, ti, T.clT, T.noT_pads, tF_pads _ _ _ _, _, rfl, d.h, c.H, dx, _, _, rfl, hi, T.clH, T.noH_played, hF_played _ _ _ _ _, _, rfl, d.p s.here, _, rfl, SqL.of hp, fun p2 hp2 => ?_⟩
        rw [cut_take]
        have s1 : Same H (upd H p2 (.lst (vN ((s.tk s.here).pads.take s.pl)))) := Same.new hp2
        have e1 : (upd H p2 (.lst (vN ((s.tk s.here).pads.take s.pl)))) p2 = some (.lst (vN ((s.tk s.here).pads.take s.pl))) := upd_same
        generalize hH1 : upd H p2 (.lst (vN ((s.tk s.here).pads.take s.pl))) = H1 at s1 e1
        refine ⟨_, rfl, d.t s.here, c.T, tx, _, _, rfl, s1 _ _ ti, T.clT, T.noT_marks, tF_marks _ _ _ _, _, rfl, d.h, c.H, dx, _, _, rfl, s1 _ _ hi, T.clH, T.noH_played, hF_played _ _ _ _ _, _, rfl, d.q s.here, _, rfl, SqL.of (s1 _ _ hq), fun q2 hq2 => ?_⟩
        rw [cut_take]
        have s2 : Same H1 (upd H1 q2 (.lst (vN ((s.tk s.here).marks.take s.pl)))) := Same.new hq2
        have e2 : (upd H1 q2 (.lst (vN ((s.tk s.here).marks.take s.pl)))) q2 = some (.lst (vN ((s.tk s.here).marks.take s.pl))) := upd_same
        generalize hH2 : upd H1 q2 (.lst (vN ((s.tk s.here).marks.take s.pl))) = H2 at s2 e2
        have s12 := s1.trans s2
        have pq : p2 ≠ q2 := ne_of_none e1 hq2
        refine onMakeT (par := (s.here : Int)) (ahd := s.pl) (p := p2) (q := q2) fun x H3 nx ⟨dx3, i3⟩ s3 => ?_
        have s13 := s12.trans s3
        have hT : TakeAt c H3 x p2 q2 s.branch := ⟨⟨dx3, i3⟩, s3 _ _ (s2 _ _ e1), s3 _ _ e2⟩
        have h3 := hH.same s13
        have nx0 : H x = none := s12.free nx
        have nq0 : H q2 = none := s1.free hq2
        -- house.here = len(house.takes)
        refine ⟨_, rfl, d.h, c.H, dx, _, _, rfl, s13 _ _ hi, T.clH, T.noH_takes, hF_takes _ _ _ _ _, d.T, _, rfl, .inl (SqL.of h3.tks), _, rfl, d.h, c.H, dx, _, rfl, s13 _ _ hi, T.clH, T.noH_here, few5, ?_⟩
        rw [refs_len]
        have h4 := h3.put_h (dx := dx) s.ts.length s.pl (hF_put_here d.l d.T d.m s.here s.pl s.ts.length)
        have hxn : x ≠ d.h := (ne_of_none hi nx0).symm
        have pn : p2 ≠ d.h := (ne_of_none hi hp2).symm
        have qn : q2 ≠ d.h := (ne_of_none hi nq0).symm
        have hT4 : TakeAt c (upd H3 d.h (.ins c.H dx (putF "here" (.int (s.ts.length : Int)) (hF d.l d.T d.m s.here s.pl)))) x p2 q2 s.branch := ⟨⟨dx3, by rw [upd_ne hxn]; exact i3⟩, by rw [upd_ne pn]; exact hT.pads, by rw [upd_ne qn]; exact hT.marks⟩
        have f4 : Fr L H L (upd H3 d.h (.ins c.H dx (putF "here" (.int (s.ts.length : Int)) (hF d.l d.T d.m s.here s.pl)))) := (Fr.same s13).trans (Fr.store hH.lab.h)
        generalize upd H3 d.h (.ins c.H dx (putF "here" (.int (s.ts.length : Int)) (hF d.l d.T d.m s.here s.pl))) = H4 at h4 hT4 f4
        obtain ⟨dx4, i4⟩ := h4.ins
        -- house.takes.append(new_take)
        refine ⟨_, rfl, d.h, c.H, dx4, _, _, rfl, i4, T.clH, T.noH_takes, hF_takes _ _ _ _ _, .inl ⟨rfl, _, SqL.of h4.tks⟩, _, rfl, d.T, _, _, rfl, rfl, h4.tks, (by rw [refs_len]; exact Nat.lt_of_le_of_lt g.most (by decide)), ?_⟩
        have h0' : HAt c H L d { s with here := s.here, pl := s.pl } := hH
        have h5 : HAt c (upd H4 d.T (.lst (refs d s.ts.length ++ [V.ref x]))) (relabT L s.ts.length x p2 q2) (d.more s.ts.length x p2 q2) { s with here := s.ts.length, ts := s.ts ++ [s.branch] } := by
          have h0h := hH.same (Same.refl H)
          exact HAt.put_t2 hH nx0 hp2 nq0 pq h4 hT4 rfl
        have ek : ({ s with here := s.ts.length, ts := s.ts ++ [s.branch] } : Hs).tk s.ts.length = s.branch := by
          show (s.ts ++ [s.branch]).getD s.ts.length tnone = _
          rw [Hs.tk_app, if_pos rfl]
        -- take = new_take
        refine ⟨_, rfl, relabT L s.ts.length x p2 q2, d.more s.ts.length x p2 q2, { s with here := s.ts.length, ts := s.ts ++ [s.branch] }, some (.ref x), ?_, rfl, h5, ?_, ?_, rfl, rfl, ?_, ?_⟩
        · show [some (V.ref d.h), some (V.int (v : Int)), some (V.ref x), some (V.ref x)] = [some (V.ref d.h), some (V.int (v : Int)), some (V.ref (if s.ts.length = s.ts.length then x else d.t s.ts.length)), some (V.ref x)]
          rw [if_pos rfl]
        · refine (Fr.relabT (n := s.ts.length) nx0 hp2 nq0).trans ?_
          intro a o ha la
          have la' : L a = none := by rw [← relabT_old (L := L) (n := s.ts.length) (ne_of_none ha nx0) (ne_of_none ha hp2) (ne_of_none ha nq0)]; exact la
          obtain ⟨e, _⟩ := f4 a o ha la'
          refine ⟨?_, la⟩
          rw [upd_ne (fun z => by rw [z, hH.lab.T] at la'; cases la')]; exact e
        · show s.ts.length < (s.ts ++ [s.branch]).length
          rw [List.length_append]; exact Nat.lt_succ_self _
        · rw [ek]; exact g.branch
        · rw [ek, playPad_branch cc]
          show _ = ({ s with here := s.ts.length, ts := (s.ts ++ [s.branch]).set s.ts.length _, pl := s.pl + 1, m := frame s.m v } : Hs)
          rw [set_end]
      · refine itF (decide_eq_false (show ¬ (s.pl : Int) < ((s.tk s.here).pads.length : Int) from by have : ¬ s.pl < (s.tk s.here).pads.length := cc; omega)) ?_
        exact ⟨L, d, s, none, rfl, rfl, hH, Fr.refl _ _, g.here, rfl, rfl, g.cur, playPad_more cc⟩
    · rintro σ' H' ⟨L', d', s', v3, rfl, ed, h', f', lt, em, epl, gt, eq⟩
      obtain ⟨dx', i'⟩ := h'.ins
      -- run_frame(house.machine, pad)
      refine ⟨_, rfl, d'.h, c.H, dx', _, _, rfl, i', T.clH, T.noH_machine, hF_machine _ _ _ _ _, _, rfl, d'.m, d'.mc, _, v, rfl, h'.mach, hv, fun H3 h3 o3 => ?_⟩
      have a3 := h'.run h3 o3
      have f3 := f'.trans (Fr.off h'.lab.m h'.lab.mc o3)
      obtain ⟨tx3, t3⟩ := (a3.tk s'.here lt).ins
      have p3 := (a3.tk s'.here lt).pads
      -- take.pads.append(pad)
      refine ⟨_, rfl, d'.t s'.here, c.T, tx3, _, _, rfl, t3, T.clT, T.noT_pads, tF_pads _ _ _ _, .inl ⟨rfl, _, SqL.of p3⟩, _, rfl, d'.p s'.here, _, _, rfl, rfl, p3, (by rw [vN_len]; exact Nat.lt_of_le_of_lt gt.len (by decide)), ?_⟩
      have a4 := a3.put_p (k := s'.here) (ps := (s'.tk s'.here).pads ++ [v]) lt (xs := vN (s'.tk s'.here).pads ++ [V.int (v : Int)]) (by rw [vN_app]; rfl)
      have f4 := f3.trans (Fr.store (o := .lst (vN (s'.tk s'.here).pads ++ [V.int (v : Int)])) (h'.lab.p s'.here lt))
      generalize hH4 : upd H3 (d'.p s'.here) (.lst (vN (s'.tk s'.here).pads ++ [V.int (v : Int)])) = H4 at a4 f4
      have hH4' : upd H3 (d'.p s'.here) (.lst (vN ((({ s' with m := frame s'.m v } : Hs).tk s'.here).pads) ++ [V.int (v : Int)])) = H4 := hH4
      rw [hH4']
      have ln4 : s'.here < (s'.ts.set s'.here { s'.tk s'.here with pads := (s'.tk s'.here).pads ++ [v] }).length := by rw [List.length_set]; exact lt
      have k4 := a4.tk s'.here ln4
      obtain ⟨tx4, t4⟩ := k4.ins
      obtain ⟨dx4, i4⟩ := a4.ins
      have tk4 : (({ s' with m := frame s'.m v, ts := s'.ts.set s'.here { s'.tk s'.here with pads := (s'.tk s'.here).pads ++ [v] } } : Hs).tk s'.here) = { s'.tk s'.here with pads := (s'.tk s'.here).pads ++ [v] } := by
        show (s'.ts.set s'.here _).getD s'.here tnone = _
        rw [tk_set lt, if_pos rfl]
      have q4 : H4 (d'.q s'.here) = some (.lst (vN (s'.tk s'.here).marks)) := by
        have q : H4 (d'.q s'.here) = some (.lst (vN (({ s' with m := frame s'.m v, ts := s'.ts.set s'.here { s'.tk s'.here with pads := (s'.tk s'.here).pads ++ [v] } } : Hs).tk s'.here).marks)) := k4.marks
        rw [tk4] at q
        exact q
      -- take.marks.append(mark_of(house.machine))
      refine ⟨_, rfl, d'.t s'.here, c.T, tx4, _, _, rfl, t4, T.clT, T.noT_marks, tF_marks _ _ _ _, .inl ⟨rfl, _, SqL.of q4⟩, _, rfl, d'.h, c.H, dx4, _, _, rfl, i4, T.clH, T.noH_machine, hF_machine _ _ _ _ _, d'.m, d'.mc, _, rfl, a4.mach, fun H5 s5 => ⟨d'.q s'.here, _, _, rfl, rfl, s5 _ _ q4, (by rw [vN_len, gt.marks]; exact Nat.lt_of_le_of_lt gt.len (by decide)), ?_⟩⟩
      have a5 := (a4.same s5).put_q (k := s'.here) (ms := (s'.tk s'.here).marks ++ [mark (frame s'.m v)]) ln4 (xs := vN (s'.tk s'.here).marks ++ [V.int (mark (frame s'.m v) : Int)]) (by rw [vN_app]; rfl)
      have f5 := (f4.trans (Fr.same s5)).trans (Fr.store (o := .lst (vN (s'.tk s'.here).marks ++ [V.int (mark (frame s'.m v) : Int)])) (h'.lab.q s'.here lt))
      obtain ⟨dx5, i5⟩ := a5.ins
      -- house.played = house.played + 1
      refine ⟨_, rfl, d'.h, c.H, dx5, _, _, rfl, i5, T.clH, T.noH_played, hF_played _ _ _ _ _, _, _, rfl, rfl, _, rfl, d'.h, c.H, dx5, _, rfl, i5, T.clH, T.noH_played, few5, ?_⟩
      have a6 := a5.put_h (dx := dx5) s'.here (s'.pl + 1) (fs := putF "played" (.int ((s'.pl : Int) + 1)) (hF d'.l d'.T d'.m s'.here s'.pl)) (hF_put_played _ _ _ _ _ (s'.pl + 1))
      refine kk _ L' d' ed ?_ (f5.trans (Fr.store h'.lab.h))
      rw [eq]
      have es : ∀ (n : Nat) (M : Mach), (s'.ts.set s'.here { s'.tk s'.here with pads := (s'.tk s'.here).pads ++ [v] }).set s'.here { (({ s' with m := M, ts := s'.ts.set s'.here { s'.tk s'.here with pads := (s'.tk s'.here).pads ++ [v] } } : Hs).tk s'.here) with marks := (s'.tk s'.here).marks ++ [n] } = s'.ts.set s'.here ((s'.tk s'.here).more v n) := fun n M => by
        have tkM : (({ s' with m := M, ts := s'.ts.set s'.here { s'.tk s'.here with pads := (s'.tk s'.here).pads ++ [v] } } : Hs).tk s'.here) = { s'.tk s'.here with pads := (s'.tk s'.here).pads ++ [v] } := by
          show (s'.ts.set s'.here _).getD s'.here tnone = _
          rw [tk_set lt, if_pos rfl]
        rw [tkM, List.set_set]; rfl
      have e6 : ({ s' with m := frame s'.m v, ts := s'.ts.set s'.here ((s'.tk s'.here).more v (mark (frame s'.m v))), here := s'.here, pl := s'.pl + 1 } : Hs) = { s' with ts := s'.ts.set s'.here ((s'.tk s'.here).more v (mark (frame s.m v))), pl := s.pl + 1, m := frame s.m v } := by rw [em, epl]
      rw [← e6, ← es (mark (frame s'.m v)) (frame s'.m v)]
      exact a6
end
end Tk
-- the part TkTakes4
set_option maxRecDepth 100000
set_option maxHeartbeats 4000000
namespace Tk
open PySem PySem.Spec PyProof.Rows L2
open CsBase (Mach byteAt put inA inX opAt rests upTo frame frames loaded told mark)

theorem parts_at {l r : List Nat} {i x y n : Nat} (hx : l[i]? = some x) (hy : r[i]? = some y) : Cs05.parts (l.drop i) (r.drop i) n = if x = y then Cs05.parts (l.drop (i + 1)) (r.drop (i + 1)) (n + 1) else n := by
  rw [drop_at hx, drop_at hy]; rfl
theorem parts_end {l r : List Nat} {n : Nat} (h : l = [] ∨ r = []) : Cs05.parts l r n = n := by
  rcases h with h | h
  · subst h; cases r <;> rfl
  · subst h; cases l <;> rfl
theorem dec_ne (i j : Nat) : (!decide (V.int (i : Int) = V.int (j : Int))) = !(i == j) := by rw [dec_int]
theorem partsAt_at {M N : Mach} {l r : List Nat} {i x y n : Nat} (hx : l[i]? = some x) (hy : r[i]? = some y) : Cs05.partsAt M N (l.drop i) (r.drop i) n = if Cs05.alike (frame M x) (frame N y) = true then Cs05.partsAt (frame M x) (frame N y) (l.drop (i + 1)) (r.drop (i + 1)) (n + 1) else some (n + 1) := by
  rw [drop_at hx, drop_at hy]; rfl
theorem partsAt_end {M N : Mach} {l r : List Nat} {n : Nat} (h : l = [] ∨ r = []) : Cs05.partsAt M N l r n = none := by
  rcases h with h | h
  · subst h; cases r <;> rfl
  · subst h; cases l <;> rfl
theorem strays_at {M : Mach} {l : List (Nat × Nat)} {i n : Nat} {x : Nat × Nat} (hx : l[i]? = some x) : Cs05.strays M (l.drop i) n = if mark (frame M x.1) = x.2 then Cs05.strays (frame M x.1) (l.drop (i + 1)) (n + 1) else some n := by
  obtain ⟨hl, e⟩ := List.getElem?_eq_some_iff.mp hx
  rw [List.drop_eq_getElem_cons hl, e]; rfl
theorem drop_end {α : Type} {l : List α} {n : Nat} (h : l.length ≤ n) : l.drop n = [] := List.drop_eq_nil_of_le h
section
variable {P : Program} {w : World} {K : PySem.W.Frag} {mg : Str → Option Value} {base : Heap} {c : Cs}
theorem c_first_difference (T : Txt K mg c) : Cal P w K mg base CX0 1 "first_difference" ["first", "second"] (spDiff c) := by
  refine T.d_first_difference.ok sc_first_difference (fun vs H Q E h => ?_) (fun q f cdv A outer s H vs Q E hr h => ⟨_, (pss_cons (ps_set (i := 2) sc_first_difference.nd rfl (Or.inl rfl) (pe_callB (call_min2 (by rfl)) (by rfl) T.n_min (by decide +kernel) (pa_cons (pe_callB call_len_seq (by rfl) T.n_len PySem.boot_len (pa_cons (pe_fld (pv 0) rfl) pa_nil)) (pa_cons (pe_callB call_len_seq (by rfl) T.n_len PySem.boot_len (pa_cons (pe_fld (pv 1) rfl) pa_nil)) pa_nil)))) (pss_cons (ps_for PassesOwn.never rfl (pi_range1 (by rfl) T.n_range (pa_cons (pv 2) pa_nil)) (pg_name (i := 3) sc_first_difference.nd rfl (Or.inl rfl)) (pss_one (ps_if (pt_cmpR op_ne (pe_ix ix_list (pe_fld (pv 0) rfl) (pv 3) (fun _ _ => rfl)) (pe_ix ix_list (pe_fld (pv 1) rfl) (pv 3) (fun _ _ => rfl)) (nomark _)) (pss_one (ps_ret (pv 3))) pss_nil))) (pss_one (ps_ret (pv 2))))), ?_⟩)
  · obtain ⟨t, p, q, t2, p2, q2, k, k2, rfl, _⟩ := h; rfl
  · obtain ⟨t, p, q, t2, p2, q2, k, k2, rfl, h1, h2, g1, kk⟩ := h
    obtain ⟨tx, ti⟩ := h1.ins
    obtain ⟨tx2, ti2⟩ := h2.ins
    have m60 : min k.pads.length k2.pads.length ≤ 60 := Nat.le_trans (Nat.min_le_left _ _) g1.len
    refine ⟨_, rfl, t, c.T, tx, _, _, rfl, ti, T.clT, T.noT_pads, tF_pads _ _ _ _, p, _, rfl, .inl (SqL.of h1.pads), _, rfl, t2, c.T, tx2, _, _, rfl, ti2, T.clT, T.noT_pads, tF_pads _ _ _ _, p2, _, rfl, .inl (SqL.of h2.pads), _, _, rfl, ?_⟩
    have em : (if ((vN k2.pads).length : Int) < ((vN k.pads).length : Int) then ((vN k2.pads).length : Int) else ((vN k.pads).length : Int)) = ((min k.pads.length k2.pads.length : Nat) : Int) := by
      rw [vN_len, vN_len]
      split <;> omega
    rw [em]
    refine ⟨_, rfl, _, rfl, (by omega), (by omega), ?_⟩
    rw [Int.toNat_natCast]
    refine for_range (lo := 0) (n := min k.pads.length k2.pads.length) (fun i σ H' => ∃ v, σ = [some (.ref t), some (.ref t2), some (.int ((min k.pads.length k2.pads.length : Nat) : Int)), v] ∧ H' = H ∧ Cs05.parts (k.pads.drop i) (k2.pads.drop i) i = Cs05.parts k.pads k2.pads 0) ⟨none, rfl, rfl, rfl⟩ ?_ ?_
    · rintro i σ H' hi ⟨v, rfl, rfl, eq⟩
      have l1 : i < k.pads.length := by omega
      have l2 : i < k2.pads.length := by omega
      have hx : k.pads[i]? = some k.pads[i] := List.getElem?_eq_getElem l1
      have hy : k2.pads[i]? = some k2.pads[i] := List.getElem?_eq_getElem l2
      rw [parts_at hx hy] at eq
      refine ⟨_, rfl, t, c.T, tx, _, _, rfl, ti, T.clT, T.noT_pads, tF_pads _ _ _ _, _, rfl, p, _, _, _, rfl, rfl, SqL.of h1.pads, at_of (Int.zero_add _) (vN_get hx), _, rfl, t2, c.T, tx2, _, _, rfl, ti2, T.clT, T.noT_pads, tF_pads _ _ _ _, _, rfl, p2, _, _, _, rfl, rfl, SqL.of h2.pads, at_of (Int.zero_add _) (vN_get hy), rfl, _, rfl, ?_⟩
      rw [dec_ne]
      by_cases e : k.pads[i] = k2.pads[i]
      · rw [if_pos e] at eq
        refine itF (by simp [e]) ?_
        exact ⟨_, rfl, rfl, eq⟩
      · rw [if_neg e] at eq
        refine itT (by simp [e]) ⟨_, rfl, ?_⟩
        rw [← eq] at kk
        show Q (.int ((0 : Int) + (i : Int))) H'
        rw [Int.zero_add]
        exact kk
    · rintro σ H' ⟨v, rfl, rfl, eq⟩
      refine ⟨_, rfl, ?_⟩
      rw [parts_end (by
        rcases Nat.le_total k.pads.length k2.pads.length with z | z
        · exact .inl (drop_end (by omega))
        · exact .inr (drop_end (by omega)))] at eq
      rw [← eq] at kk
      exact kk
theorem c_first_unlike (T : Txt K mg c) : Cal P w K mg base CX0 5 "first_unlike" ["house", "first", "second"] (spUnlike c) := by
  refine T.d_first_unlike.ok sc_first_unlike (fun vs H Q E h => ?_) (fun q f cdv A outer s H vs Q E hr h => ⟨_, (pss_cons (ps_set (i := 3) sc_first_unlike.nd rfl (Or.inl rfl) (pc_make (c_Machine_init T) (hr.mono (by decide)) (by rfl) pass0 (pa_cons (pe_fld (pv 0) rfl) pa_nil))) (pss_cons (ps_set (i := 4) sc_first_unlike.nd rfl (Or.inl rfl) (pc_make (c_Machine_init T) (hr.mono (by decide)) (by rfl) pass0 (pa_cons (pe_fld (pv 0) rfl) pa_nil))) (pss_cons (ps_set (i := 5) sc_first_unlike.nd rfl (Or.inl rfl) pe_int) (pss_cons (ps_for PassesOwn.never rfl (pi_zip (by rfl) T.n_zip (pa_cons (pe_fld (pv 1) rfl) (pa_cons (pe_fld (pv 2) rfl) pa_nil))) (pg_tup rfl (pgs_cons (pg_name (i := 6) sc_first_unlike.nd rfl (Or.inl rfl)) (pgs_cons (pg_name (i := 7) sc_first_unlike.nd rfl (Or.inl rfl)) pgs_nil))) (pss_cons (ps_expr (pc_call (c_run_frame T) (hr.mono (by decide)) (by rfl) pass0 (pa_cons (pv 3) (pa_cons (pv 6) pa_nil)))) (pss_cons (ps_expr (pc_call (c_run_frame T) (hr.mono (by decide)) (by rfl) pass0 (pa_cons (pv 4) (pa_cons (pv 7) pa_nil)))) (pss_cons (ps_aug (i := 5) sc_first_unlike.nd rfl (Or.inl rfl) pe_int ip_add) (pss_one (ps_if (pt_not (pt_val (pc_call (c_are_alike T) (hr.mono (by decide)) (by rfl) pass0 (pa_cons (pv 3) (pa_cons (pv 4) pa_nil))))) (pss_one (ps_ret (pv 5))) pss_nil)))))) (pss_one (ps_ret (pe_un un_neg pe_int))))))), ?_⟩)
  · obtain ⟨L, d, s, i, j, rfl, _⟩ := h; rfl
  · obtain ⟨L, d, s, i, j, rfl, hH, gF, li, lj, kk⟩ := h
    obtain ⟨dx, hi⟩ := hH.ins
    obtain ⟨t1, i1⟩ := (hH.tk i li).ins
    obtain ⟨t2, i2⟩ := (hH.tk j lj).ins
    have p1 := (hH.tk i li).pads
    have p2 := (hH.tk j lj).pads
    have b1 := (gF.tk li).bytes
    have b2 := (gF.tk lj).bytes
    rw [mk0_loaded gF.lo gF.bytes] at kk
    refine seq_set (make_ev (fun Q' q => ⟨_, rfl, d.h, c.H, dx, _, _, rfl, hi, T.clH, T.noH_loaded, hF_loaded _ _ _ _ _, q⟩) (SqL.of hH.lo) gF.lo gF.bytes fun x xc H1 nx nxc h1 s1 => ?_)
    refine seq_set (make_ev (fun Q' q => ⟨_, rfl, d.h, c.H, dx, _, _, rfl, s1 _ _ hi, T.clH, T.noH_loaded, hF_loaded _ _ _ _ _, q⟩) (SqL.of (s1 _ _ hH.lo)) gF.lo gF.bytes fun y yc H2 ny nyc h2 s2 => ?_)
    have s12 := s1.trans s2
    obtain ⟨xd, xi⟩ := h1.ins
    have xy : x ≠ y := ne_of_none xi ny
    have xyc : x ≠ yc := ne_of_none xi nyc
    have xcy : xc ≠ y := ne_of_none h1.lst ny
    have xcyc : xc ≠ yc := ne_of_none h1.lst nyc
    refine ⟨_, rfl, d.t i, c.T, t1, _, _, rfl, s12 _ _ i1, T.clT, T.noT_pads, tF_pads _ _ _ _, _, rfl, d.t j, c.T, t2, _, _, rfl, s12 _ _ i2, T.clT, T.noT_pads, tF_pads _ _ _ _, d.p i, d.p j, _, _, rfl, SqL.of (s12 _ _ p1), SqL.of (s12 _ _ p2), ?_⟩
    have hx1 := h1.same s2
    refine for_zip2 (K := K) (xs := vN (s.tk i).pads) (ys := vN (s.tk j).pads) (fun n σ H' => ∃ (M N : Mach) (v6 v7 : Option V), σ = [some (.ref d.h), some (.ref (d.t i)), some (.ref (d.t j)), some (.ref x), some (.ref y), some (.int (n : Int)), v6, v7] ∧ Same H H' ∧ MachAt c H' x xc M ∧ MachAt c H' y yc N ∧
        Cs05.partsAt M N ((s.tk i).pads.drop n) ((s.tk j).pads.drop n) n = Cs05.partsAt (mk0 s.lo) (mk0 s.lo) (s.tk i).pads (s.tk j).pads 0)
      ⟨_, _, none, none, rfl, s12, hx1, h2, rfl⟩ (fun n σ H' ⟨_, _, _, _, _, s3, _⟩ => ⟨SqL.of (s3 _ _ p1), SqL.of (s3 _ _ p2)⟩) ?_ ?_
    · rintro n u v Z σ H' hu hv ⟨M, N, v6, v7, rfl, s3, hM, hN, eq⟩ nZ
      obtain ⟨a, ha, rfl⟩ := of_vN hu
      obtain ⟨b, hb, rfl⟩ := of_vN hv
      rw [partsAt_at ha hb] at eq
      have sZ : Same H' (upd H' Z (.tup [V.int (a : Int), V.int (b : Int)])) := Same.new nZ
      refine ⟨Z, _, rfl, SqT.of upd_same, rfl, _, _, rfl, _, _, rfl, rfl, ?_⟩
      have hM1 := hM.same sZ
      have hN1 := hN.same sZ
      have s4 := s3.trans sZ
      refine ⟨_, rfl, _, rfl, x, xc, M, a, rfl, hM1, b1 a (List.mem_of_getElem? ha), fun H5 h5 o5 => ?_⟩
      have hN5 : MachAt c H5 y yc N := by
        obtain ⟨e, ee⟩ := hN1.ins
        exact ⟨⟨e, o5 _ _ ee xy.symm xcy.symm⟩, o5 _ _ hN1.lst xyc.symm xcyc.symm, hN1.wf⟩
      have s5 : Same H H5 := fun z o e => o5 _ _ (s4 _ _ e) (ne_of_none e nx) (ne_of_none e nxc)
      refine ⟨_, rfl, _, rfl, y, yc, N, b, rfl, hN5, b2 b (List.mem_of_getElem? hb), fun H6 h6 o6 => ?_⟩
      have hM6 : MachAt c H6 x xc (frame M a) := by
        obtain ⟨e, ee⟩ := h5.ins
        exact ⟨⟨e, o6 _ _ ee xy xyc⟩, o6 _ _ h5.lst xcy xcyc, h5.wf⟩
      have ny0 : H y = none := s1.free ny
      have nyc0 : H yc = none := s1.free nyc
      have s6 : Same H H6 := fun z o e => o6 _ _ (s5 _ _ e) (ne_of_none e ny0) (ne_of_none e nyc0)
      refine ⟨_, rfl, _, _, rfl, rfl, ?_⟩
      refine ⟨_, rfl, _, rfl, x, xc, y, yc, _, _, rfl, hM6, h6, fun H7 s7 => ⟨_, rfl, ?_⟩⟩
      cases ea : Cs05.alike (frame M a) (frame N b) with
      | true =>
        rw [ea, if_pos rfl] at eq
        refine itF rfl ?_
        exact ⟨_, _, _, _, rfl, s6.trans s7, hM6.same s7, h6.same s7, eq⟩
      | false =>
        rw [ea, if_neg Bool.false_ne_true] at eq
        refine itT rfl ⟨_, rfl, ?_⟩
        rw [← eq] at kk
        exact kk _ (s6.trans s7)
    · rintro σ H' ⟨M, N, v6, v7, rfl, s3, hM, hN, eq⟩
      rw [vN_len, vN_len] at eq
      rw [partsAt_end (by
        rcases Nat.le_total (s.tk i).pads.length (s.tk j).pads.length with z | z
        · exact .inl (drop_end (by omega))
        · exact .inr (drop_end (by omega)))] at eq
      rw [← eq] at kk
      exact ⟨_, rfl, kk _ s3⟩
theorem free_next (m p : Mach) (i : Nat) : ((List.range (i + 1)).filter fun w => Cs05.alike (frame m w) p).length = ((List.range i).filter fun w => Cs05.alike (frame m w) p).length + (if Cs05.alike (frame m i) p = true then 1 else 0) := by
  rw [List.range_succ, List.filter_append, List.length_append]
  congr 1
  cases e : Cs05.alike (frame m i) p <;> simp [e]
theorem c_count_free (T : Txt K mg c) : Cal P w K mg base CX0 6 "count_free" ["house", "t"] (spFree c) := by
  refine T.d_count_free.ok sc_count_free (fun vs H Q E h => ?_) (fun q f cdv A outer s H vs Q E hr h => ⟨_, (pss_cons (ps_set (i := 2) sc_count_free.nd rfl (Or.inl rfl) (pe_ix ix_list (pe_fld (pv 0) rfl) (pe_fld (pv 0) rfl) (fun _ _ => rfl))) (pss_cons (ps_set (i := 3) sc_count_free.nd rfl (Or.inl rfl) (pc_call (c_machine_ahead T) (hr.mono (by decide)) (by rfl) pass0 (pa_cons (pv 0) (pa_cons (pv 2) (pa_cons (pv 1) pa_nil))))) (pss_cons (ps_set (i := 4) sc_count_free.nd rfl (Or.inl rfl) (pc_call (c_copied T) (hr.mono (by decide)) (by rfl) pass0 (pa_cons (pv 3) pa_nil))) (pss_cons (ps_expr (pc_call (c_run_frame T) (hr.mono (by decide)) (by rfl) pass0 (pa_cons (pv 4) (pa_cons (pe_ix ix_list (pe_fld (pv 2) rfl) (pv 1) (fun _ _ => rfl)) pa_nil)))) (pss_cons (ps_set (i := 5) sc_count_free.nd rfl (Or.inl rfl) pe_int) (pss_cons (ps_for PassesOwn.never rfl (pi_range1 (by rfl) T.n_range (pa_cons pe_int pa_nil)) (pg_name (i := 6) sc_count_free.nd rfl (Or.inl rfl)) (pss_cons (ps_set (i := 7) sc_count_free.nd rfl (Or.inl rfl) (pc_call (c_copied T) (hr.mono (by decide)) (by rfl) pass0 (pa_cons (pv 3) pa_nil))) (pss_cons (ps_expr (pc_call (c_run_frame T) (hr.mono (by decide)) (by rfl) pass0 (pa_cons (pv 7) (pa_cons (pv 6) pa_nil)))) (pss_one (ps_if (pt_val (pc_call (c_are_alike T) (hr.mono (by decide)) (by rfl) pass0 (pa_cons (pv 7) (pa_cons (pv 4) pa_nil)))) (pss_one (ps_aug (i := 5) sc_count_free.nd rfl (Or.inl rfl) pe_int ip_add)) pss_nil))))) (pss_one (ps_ret (pv 5))))))))), ?_⟩)
  · obtain ⟨L, d, s, t, rfl, _⟩ := h; rfl
  · obtain ⟨L, d, s, t, rfl, hH, g, ht, kk⟩ := h
    obtain ⟨dx, hi⟩ := hH.ins
    obtain ⟨tx, ti⟩ := (hH.tk s.here g.here).ins
    have hp := (hH.tk s.here g.here).pads
    have hg : (s.tk s.here).pads[t]? = some (s.cur.pads.getD t 0) := by
      have : s.cur.pads[t]? = some s.cur.pads[t] := List.getElem?_eq_getElem ht
      rw [List.getD_eq_getElem?_getD, this]; exact this
    refine ⟨_, rfl, d.h, c.H, dx, _, _, rfl, hi, T.clH, T.noH_takes, hF_takes _ _ _ _ _, _, rfl, d.h, c.H, dx, _, _, rfl, hi, T.clH, T.noH_here, hF_here _ _ _ _ _, d.T, _, _, _, rfl, rfl, SqL.of hH.tks, atI_nat (refs_get g.here), ?_⟩
    refine ⟨_, rfl, _, rfl, _, rfl, L, d, s, s.here, t, rfl, hH, g.fine, g.here, fun x xc H1 nx nxc h1 s1 => ?_⟩
    refine ⟨_, rfl, x, xc, _, rfl, h1, fun y yc H2 ny nyc h2 s2 => ?_⟩
    obtain ⟨xd, xi⟩ := h1.ins
    have xy : x ≠ y := ne_of_none xi ny
    have xyc : x ≠ yc := ne_of_none xi nyc
    have xcy : xc ≠ y := ne_of_none h1.lst ny
    have xcyc : xc ≠ yc := ne_of_none h1.lst nyc
    have s12 := s1.trans s2
    refine ⟨_, rfl, _, rfl, d.t s.here, c.T, tx, _, _, rfl, s12 _ _ ti, T.clT, T.noT_pads, tF_pads _ _ _ _, _, rfl, d.p s.here, _, _, _, rfl, rfl, SqL.of (s12 _ _ hp), atI_nat (vN_get hg), y, yc, _, s.cur.pads.getD t 0, rfl, h2, g.cur.bytes _ (List.mem_of_getElem? hg), fun H3 h3 o3 => ?_⟩
    have hx3 : MachAt c H3 x xc (ahead s (s.tk s.here) t) := by
      have q := h1.same s2
      obtain ⟨e, ee⟩ := q.ins
      exact ⟨⟨e, o3 _ _ ee xy xyc⟩, o3 _ _ q.lst xcy xcyc, q.wf⟩
    have s3 : Same H H3 := fun z o e => o3 _ _ (s12 _ _ e) (ne_of_none e (s1.free ny)) (ne_of_none e (s1.free nyc))
    refine ⟨256, rfl, (by decide), (by decide), for_range (lo := 0) (n := 256) (fun i σ H' => ∃ v6 v7, σ = [some (.ref d.h), some (.int (t : Int)), some (.ref (d.t s.here)), some (.ref x), some (.ref y), some (.int (((List.range i).filter fun w => Cs05.alike (frame (ahead s (s.tk s.here) t) w) (frame (ahead s (s.tk s.here) t) (s.cur.pads.getD t 0))).length : Int)), v6, v7] ∧ Same H3 H') ⟨none, none, rfl, Same.refl _⟩ ?_ ?_⟩
    · rintro i σ H' hi' ⟨v6, v7, rfl, s'⟩
      refine ⟨_, rfl, x, xc, _, rfl, hx3.same s', fun z zc H4 nz nzc h4 s4 => ?_⟩
      refine ⟨_, rfl, _, rfl, z, zc, _, i, by rw [Int.zero_add]; rfl, h4, hi', fun H5 h5 o5 => ?_⟩
      have s5 : Same H3 H5 := fun a o e => o5 _ _ (s4 _ _ (s' _ _ e)) (ne_of_none (s' _ _ e) nz) (ne_of_none (s' _ _ e) nzc)
      refine ⟨_, rfl, _, rfl, z, zc, y, yc, _, _, rfl, h5, h3.same s5, fun H6 s6 => ⟨_, rfl, ?_⟩⟩
      have s7 := s5.trans s6
      have nxt := free_next (ahead s (s.tk s.here) t) (frame (ahead s (s.tk s.here) t) (s.cur.pads.getD t 0)) i
      cases ea : Cs05.alike (frame (ahead s (s.tk s.here) t) i) (frame (ahead s (s.tk s.here) t) (s.cur.pads.getD t 0)) with
      | true =>
        rw [ea, if_pos rfl] at nxt
        refine itT rfl ⟨_, rfl, _, _, rfl, rfl, some (.int ((0 : Int) + (i : Int))), some (.ref z), ?_, s7⟩
        rw [nxt]
        rfl
      | false =>
        rw [ea, if_neg Bool.false_ne_true, Nat.add_zero] at nxt
        refine itF rfl ⟨some (.int ((0 : Int) + (i : Int))), some (.ref z), ?_, s7⟩
        rw [nxt]
        rfl
    · rintro σ H' ⟨v6, v7, rfl, s'⟩
      exact ⟨_, rfl, kk _ (s3.trans s')⟩
theorem c_first_stray (T : Txt K mg c) : Cal P w K mg base CX0 5 "first_stray" ["house", "take"] (spStray c) := by
  refine T.d_first_stray.ok sc_first_stray (fun vs H Q E h => ?_) (fun q f cdv A outer s H vs Q E hr h => ⟨_, (pss_cons (ps_set (i := 2) sc_first_stray.nd rfl (Or.inl rfl) (pc_make (c_Machine_init T) (hr.mono (by decide)) (by rfl) pass0 (pa_cons (pe_fld (pv 0) rfl) pa_nil))) (pss_cons (ps_for PassesOwn.never rfl (pi_enum (by rfl) T.n_enumerate (pa_cons (pe_fld (pv 1) rfl) pa_nil)) (pg_tup rfl (pgs_cons (pg_name (i := 3) sc_first_stray.nd rfl (Or.inl rfl)) (pgs_cons (pg_name (i := 4) sc_first_stray.nd rfl (Or.inl rfl)) pgs_nil))) (pss_cons (ps_expr (pc_call (c_run_frame T) (hr.mono (by decide)) (by rfl) pass0 (pa_cons (pv 2) (pa_cons (pv 4) pa_nil)))) (pss_one (ps_if (pt_cmpR op_ne (pc_call (c_mark_of T) (hr.mono (by decide)) (by rfl) pass0 (pa_cons (pv 2) pa_nil)) (pe_ix ix_list (pe_fld (pv 1) rfl) (pv 3) (fun _ _ => rfl)) (nomark _)) (pss_one (ps_ret (pv 3))) pss_nil)))) (pss_one (ps_ret (pe_un un_neg pe_int))))), ?_⟩)
  · obtain ⟨L, d, s, k, rfl, _⟩ := h; rfl
  · obtain ⟨L, d, s, k, rfl, hH, gF, lk, kk⟩ := h
    obtain ⟨dx, hi⟩ := hH.ins
    obtain ⟨t1, i1⟩ := (hH.tk k lk).ins
    have p1 := (hH.tk k lk).pads
    have q1 := (hH.tk k lk).marks
    have b1 := (gF.tk lk).bytes
    have em := (gF.tk lk).marks
    rw [mk0_loaded gF.lo gF.bytes] at kk
    refine seq_set (make_ev (fun Q' q => ⟨_, rfl, d.h, c.H, dx, _, _, rfl, hi, T.clH, T.noH_loaded, hF_loaded _ _ _ _ _, q⟩) (SqL.of hH.lo) gF.lo gF.bytes fun x xc H1 nx nxc h1 s1 => ?_)
    refine ⟨_, rfl, d.t k, c.T, t1, _, _, rfl, s1 _ _ i1, T.clT, T.noT_pads, tF_pads _ _ _ _, d.p k, _, rfl, SqL.of (s1 _ _ p1), ?_⟩
    refine for_enum2 (K := K) (xs := vN (s.tk k).pads) (fun n σ H' => ∃ (M : Mach) (v3 v4 : Option V), σ = [some (.ref d.h), some (.ref (d.t k)), some (.ref x), v3, v4] ∧ Same H H' ∧ MachAt c H' x xc M ∧
        Cs05.strays M (((s.tk k).pads.zip (s.tk k).marks).drop n) n = Cs05.strays (mk0 s.lo) ((s.tk k).pads.zip (s.tk k).marks) 0)
      ⟨_, none, none, rfl, s1, h1, rfl⟩ (fun n σ H' ⟨_, _, _, _, s3, _⟩ => SqL.of (s3 _ _ p1)) ?_ ?_
    · rintro n u Z σ H' hu ⟨M, v3, v4, rfl, s3, hM, eq⟩ nZ
      obtain ⟨a, ha, rfl⟩ := of_vN hu
      have ln : n < (s.tk k).marks.length := by rw [em]; exact (List.getElem?_eq_some_iff.mp ha).1
      have hb : (s.tk k).marks[n]? = some (s.tk k).marks[n] := List.getElem?_eq_getElem ln
      obtain ⟨b, eb⟩ : ∃ b, b = (s.tk k).marks[n] := ⟨_, rfl⟩
      rw [← eb] at hb
      have hz : ((s.tk k).pads.zip (s.tk k).marks)[n]? = some (a, b) := by rw [List.getElem?_zip_eq_some]; exact ⟨ha, hb⟩
      rw [strays_at hz] at eq
      have sZ : Same H' (upd H' Z (.tup [V.int (n : Nat), V.int (a : Int)])) := Same.new nZ
      refine ⟨Z, _, rfl, SqT.of upd_same, rfl, _, _, rfl, _, _, rfl, rfl, ?_⟩
      have s4 := s3.trans sZ
      refine ⟨_, rfl, _, rfl, x, xc, M, a, rfl, hM.same sZ, b1 a (List.mem_of_getElem? ha), fun H5 h5 o5 => ?_⟩
      have s5 : Same H H5 := fun z o e => o5 _ _ (s4 _ _ e) (ne_of_none e nx) (ne_of_none e nxc)
      refine ⟨_, rfl, x, xc, _, rfl, h5, fun H6 s6 => ?_⟩
      have s7 := s5.trans s6
      refine ⟨_, rfl, d.t k, c.T, t1, _, _, rfl, s7 _ _ i1, T.clT, T.noT_marks, tF_marks _ _ _ _, _, rfl, d.q k, _, _, _, rfl, rfl, SqL.of (s7 _ _ q1), atI_nat (vN_get hb), rfl, _, rfl, ?_⟩
      rw [dec_ne]
      by_cases e : mark (frame M a) = b
      · rw [if_pos e] at eq
        refine itF (by simp [e]) ?_
        exact ⟨_, _, _, rfl, s7, h5.same s6, eq⟩
      · rw [if_neg e] at eq
        refine itT (by simp [e]) ⟨_, rfl, ?_⟩
        rw [← eq] at kk
        exact kk _ s7
    · rintro σ H' ⟨M, v3, v4, rfl, s3, hM, eq⟩
      rw [vN_len] at eq
      rw [show Cs05.strays M (((s.tk k).pads.zip (s.tk k).marks).drop (s.tk k).pads.length) (s.tk k).pads.length = none from by
        rw [drop_end (by rw [List.length_zip, em]; omega)]; rfl] at eq
      rw [← eq] at kk
      exact ⟨_, rfl, kk _ s3⟩
end
end Tk
-- the part TkHouse
set_option maxRecDepth 100000
set_option maxHeartbeats 4000000
namespace Tk
open PySem PySem.Spec PyProof.Rows L2
open CsBase (Mach byteAt put inA inX opAt rests upTo frame frames loaded told mark)

def cF (n : Addr) (i : Nat) : List (Str × V) := [("numbers", .ref n), ("at", .int (i : Int))]
theorem cF_numbers (n : Addr) (i : Nat) : (cF n i).lookup ("numbers" : Str) = some (.ref n) := lk_here
theorem cF_at (n : Addr) (i : Nat) : (cF n i).lookup ("at" : Str) = some (.int (i : Int)) := (lk_past (by decide +kernel)).trans lk_here
theorem cF_put_at (n : Addr) (i : Nat) (k : Nat) : putF "at" (.int (k : Int)) (cF n i) = cF n k := (put_past (by decide +kernel)).trans (congrArg _ put_here)
theorem cF_new (n : Addr) (i : Nat) : putF "at" (.int (i : Int)) (putF "numbers" (.ref n) ([])) = cF n i := by
  have h01 : ¬ ("numbers" : Str) = "at" := by decide +kernel
  simp only [putF, if_neg h01]
  rfl
theorem cF_no_next_number (n : Addr) (i : Nat) : (cF n i).lookup ("next_number" : Str) = none := (lk_past (by decide +kernel)).trans ((lk_past (by decide +kernel)).trans rfl)
theorem cF_no_next_row (n : Addr) (i : Nat) : (cF n i).lookup ("next_row" : Str) = none := (lk_past (by decide +kernel)).trans ((lk_past (by decide +kernel)).trans rfl)
/-! ### House(content) -/
def labH (x l T m mc t p q : Addr) : Addr → Option Nat := fun a => if a = x then some 0 else if a = l then some 1 else if a = T then some 2 else if a = m then some 3 else if a = mc then some 4 else if a = t then some 5 else if a = p then some 6 else if a = q then some 7 else none
def spHInit (K : PySem.W.Frag) (c : Cs) : Sp := fun vs H Q _ => ∃ (x dx a : Addr) (l : List Nat), vs = [.ref x, .ref a] ∧ H x = some (.ins c.H dx []) ∧ SqL K H a (vN l) ∧ l.length ≤ 128 ∧ (∀ b ∈ l, b < 256) ∧
  ∀ H' d L', d.h = x → HAt c H' L' d (fresh l) → (∀ b o, H b = some o → b ≠ x → H' b = some o ∧ L' b = none) → Q .non H'
theorem fld_ev {K : PySem.W.Frag} {ta tv : TE} {f : Str} {D : Ends} {σ : L2.St} {H : Hp} (h : tv σ H fun y H1 => ta σ H1 fun x H2 => ∃ a C dx fs, x = .ref a ∧ H2 a = some (.ins C dx fs) ∧ Cls K C ∧ NoAttr K C f ∧ fs.length < 1000 ∧ D.nx σ (upd H2 a (.ins C dx (putF f y fs)))) : sFld K ta tv f D σ H := h
theorem rep_zero (n : Nat) : (List.replicate n [V.int ((0 : Nat) : Int)]).flatten = vN (List.replicate n 0) := by
  induction n with
  | zero => rfl
  | succ n ih => rw [List.replicate_succ, List.flatten_cons, ih]; rfl
section
variable {P : Program} {w : World} {K : PySem.W.Frag} {mg : Str → Option Value} {base : Heap} {c : Cs}
theorem c_House_init (T : Txt K mg c) : CalM P w K mg base c.H 4 "House" ["self", "content"] (spHInit K c) := by
  refine T.i_House.ok sc_House_init (fun vs H Q E h => ?_) (fun f cdv A outer s H vs Q E hr h => ⟨_, (pss_cons (ps_fld (pv 0) (pe_op op_cat (pe_callTy call_list_of (by rfl) T.n_list (by decide +kernel) (pa_cons (pv 1) pa_nil)) (pe_op op_rep (pe_lst (pa_cons pe_int pa_nil)) (pe_op op_sub (pc_int rfl T.g_PLACES) (pe_callB call_len_seq (by rfl) T.n_len PySem.boot_len (pa_cons (pv 1) pa_nil))))) rfl) (pss_cons (ps_fld (pv 0) (pe_lst (pa_cons (pc_make (c_Take_init T) (hr.mono (by decide)) (by rfl) pass0 (pa_cons (pe_un un_neg pe_int) (pa_cons pe_int (pa_cons (pe_lst pa_nil) (pa_cons (pe_lst pa_nil) pa_nil))))) pa_nil)) rfl) (pss_cons (ps_fld (pv 0) pe_int rfl) (pss_cons (ps_fld (pv 0) pe_int rfl) (pss_one (ps_fld (pv 0) (pc_make (c_Machine_init T) (hr.mono (by decide)) (by rfl) pass0 (pa_cons (pe_fld (pv 0) rfl) pa_nil)) rfl)))))), ?_⟩)
  · obtain ⟨x, dx, a, l, rfl, _⟩ := h; rfl
  · obtain ⟨x, dx, a, l, rfl, hx, hS, hl, hb, kk⟩ := h
    have sz : ∀ n : Nat, n ≤ 1000 → n ≤ sizeLine := fun n hn => Nat.le_trans hn (by decide)
    -- list(content) + [0] * (PLACES - len(content))
    refine ⟨_, rfl, a, _, rfl, .inl hS, fun p1 n1 => ⟨(by show 1 ≤ sizeLine; decide), fun p2 n2 => ?_⟩⟩
    have s1 : Same H (upd H p1 (.lst (vN l))) := Same.new n1
    have s2 : Same (upd H p1 (.lst (vN l))) (upd (upd H p1 (.lst (vN l))) p2 (.lst [V.int 0])) := Same.new n2
    refine ⟨_, rfl, a, _, rfl, .inl ((s1.trans s2).seq hS), _, _, rfl, rfl, p2, _, _, rfl, rfl, upd_same, (by rw [vN_len]; omega), (by rw [vN_len]; omega), (sz _ (by rw [vN_len]; show 1 * _ ≤ _; omega)), fun p3 n3 => ?_⟩
    have ek : ((128 : Int) - ((vN l).length : Int)).toNat = 128 - l.length := by rw [vN_len]; omega
    rw [ek]
    have er : (List.replicate (128 - l.length) [V.int 0]).flatten = vN (List.replicate (128 - l.length) 0) := rep_zero _
    rw [er]
    have s3 : Same (upd (upd H p1 (.lst (vN l))) p2 (.lst [V.int 0])) (upd (upd (upd H p1 (.lst (vN l))) p2 (.lst [V.int 0])) p3 (.lst (vN (List.replicate (128 - l.length) 0)))) := Same.new n3
    refine ⟨p1, p3, _, _, rfl, rfl, s3 _ _ (s2 _ _ upd_same), upd_same, (sz _ (by rw [vN_len, vN_len, List.length_replicate]; omega)), fun p4 n4 => ?_⟩
    have ep : vN l ++ vN (List.replicate (128 - l.length) 0) = vN (padded l) := (vN_app _ _).symm
    rw [ep]
    have s4 := ((s1.trans s2).trans s3).trans (Same.new (o := .lst (vN (padded l))) n4)
    have e4 : (upd (upd (upd (upd H p1 (.lst (vN l))) p2 (.lst [V.int 0])) p3 (.lst (vN (List.replicate (128 - l.length) 0)))) p4 (.lst (vN (padded l)))) p4 = some (.lst (vN (padded l))) := upd_same
    have np4 : H p4 = none := ((s1.trans s2).trans s3).free n4
    generalize upd (upd (upd (upd H p1 (.lst (vN l))) p2 (.lst [V.int 0])) p3 (.lst (vN (List.replicate (128 - l.length) 0)))) p4 (.lst (vN (padded l))) = H4 at s4 e4
    -- self.loaded = ..
    refine ⟨_, rfl, x, c.H, dx, [], rfl, s4 _ _ hx, T.clH, T.noH_loaded, (by show 0 < 1000; decide), ?_⟩
    have xp4 : x ≠ p4 := ne_of_none hx np4
    -- all but x stands, x holds what it got: from here on
    have off5 : ∀ b o, H4 b = some o → b ≠ x → (upd H4 x (.ins c.H dx (putF "loaded" (.ref p4) []))) b = some o := fun b o e ne => by rw [upd_ne ne]; exact e
    have e5 : (upd H4 x (.ins c.H dx (putF "loaded" (.ref p4) []))) x = some (.ins c.H dx (putF "loaded" (.ref p4) [])) := upd_same
    generalize upd H4 x (.ins c.H dx (putF "loaded" (.ref p4) [])) = H5 at off5 e5
    -- self.takes = [Take(-1, 0, [], [])]
    refine ⟨_, rfl, (by show 0 ≤ sizeLine; decide), fun p n => ⟨(by show 0 ≤ sizeLine; decide), fun q nq => ?_⟩⟩
    have s6 : Same H5 (upd H5 p (.lst [])) := Same.new n
    have ep6 : (upd H5 p (.lst [])) p = some (.lst []) := upd_same
    generalize upd H5 p (.lst []) = H6 at s6 ep6 nq
    have s7 : Same H6 (upd H6 q (.lst [])) := Same.new nq
    have eq7 : (upd H6 q (.lst [])) q = some (.lst []) := upd_same
    generalize upd H6 q (.lst []) = H7 at s7 eq7
    refine onMakeT (par := -1) (ahd := 0) (p := p) (q := q) fun t H8 nt ⟨dt, it⟩ s8 => ?_
    refine ⟨(by show 1 ≤ sizeLine; decide), fun TT nT => ?_⟩
    have s9 : Same H8 (upd H8 TT (.lst [V.ref t])) := Same.new nT
    have eT9 : (upd H8 TT (.lst [V.ref t])) TT = some (.lst [V.ref t]) := upd_same
    generalize upd H8 TT (.lst [V.ref t]) = H9 at s9 eT9
    have s59 : Same H5 H9 := ((s6.trans s7).trans s8).trans s9
    refine ⟨_, rfl, x, c.H, dx, _, rfl, s59 _ _ e5, T.clH, T.noH_takes, (by show 1 < 1000; decide), ?_⟩
    refine ⟨_, rfl, x, c.H, dx, _, rfl, upd_same, T.clH, T.noH_here, (by show 2 < 1000; decide), ?_⟩
    refine ⟨_, rfl, x, c.H, dx, _, rfl, upd_same, T.clH, T.noH_played, (by show 3 < 1000; decide), ?_⟩
    rw [upd_upd, upd_upd]
    have off10 : ∀ b o, H9 b = some o → b ≠ x → (upd H9 x (.ins c.H dx (putF "played" (.int 0) (putF "here" (.int 0) (putF "takes" (.ref TT) (putF "loaded" (.ref p4) [])))))) b = some o := fun b o e ne => by rw [upd_ne ne]; exact e
    have e10 : (upd H9 x (.ins c.H dx (putF "played" (.int 0) (putF "here" (.int 0) (putF "takes" (.ref TT) (putF "loaded" (.ref p4) [])))))) x = some (.ins c.H dx (putF "played" (.int 0) (putF "here" (.int 0) (putF "takes" (.ref TT) (putF "loaded" (.ref p4) []))))) := upd_same
    generalize hH10 : upd H9 x (.ins c.H dx (putF "played" (.int 0) (putF "here" (.int 0) (putF "takes" (.ref TT) (putF "loaded" (.ref p4) []))))) = H10 at off10 e10
    -- who is who
    have i5 : H5 p4 = some (.lst (vN (padded l))) := off5 _ _ e4 xp4.symm
    have xp : x ≠ p := ne_of_none e5 n
    have xq : x ≠ q := ne_of_none (s6 _ _ e5) nq
    have xt : x ≠ t := ne_of_none (s7 _ _ (s6 _ _ e5)) nt
    have xT : x ≠ TT := ne_of_none (s8 _ _ (s7 _ _ (s6 _ _ e5))) nT
    have lp : p4 ≠ p := ne_of_none i5 n
    have lq : p4 ≠ q := ne_of_none (s6 _ _ i5) nq
    have lt : p4 ≠ t := ne_of_none (s7 _ _ (s6 _ _ i5)) nt
    have lT : p4 ≠ TT := ne_of_none (s8 _ _ (s7 _ _ (s6 _ _ i5))) nT
    have pq : p ≠ q := ne_of_none ep6 nq
    have pt : p ≠ t := ne_of_none (s7 _ _ ep6) nt
    have pT : p ≠ TT := ne_of_none (s8 _ _ (s7 _ _ ep6)) nT
    have qt : q ≠ t := ne_of_none eq7 nt
    have qT : q ≠ TT := ne_of_none (s8 _ _ eq7) nT
    have tT : t ≠ TT := ne_of_none it nT
    have el : H10 p4 = some (.lst (vN (padded l))) := off10 _ _ (s59 _ _ i5) xp4.symm
    have eT : H10 TT = some (.lst [V.ref t]) := off10 _ _ eT9 xT.symm
    have et : H10 t = some (.ins c.T dt (tF (-1) 0 p q)) := off10 _ _ (s9 _ _ it) xt.symm
    have ep' : H10 p = some (.lst []) := off10 _ _ (s9 _ _ (s8 _ _ (s7 _ _ ep6))) xp.symm
    have eq' : H10 q = some (.lst []) := off10 _ _ (s9 _ _ (s8 _ _ eq7)) xq.symm
    -- self.machine = Machine(self.loaded)
    have pl := padded_len l hl
    have pb := padded_bytes hb
    dsimp only
    refine fld_ev (make_ev (fun Q' k => ⟨_, rfl, x, c.H, dx, _, _, rfl, e10, T.clH, T.noH_loaded, (by
      have q := lookup_putF ("played" : Str) ("loaded" : Str)
      rw [lookup_putF, if_neg (by decide +kernel), lookup_putF, if_neg (by decide +kernel), lookup_putF, if_neg (by decide +kernel), lookup_putF, if_pos rfl]), k⟩) (SqL.of el) pl pb fun m mc H11 nm nmc hM s11 => ?_)
    refine ⟨_, rfl, x, c.H, dx, _, rfl, s11 _ _ e10, T.clH, T.noH_machine, (by show 4 < 1000; decide), ?_⟩
    have enew : putF "machine" (.ref m) (putF "played" (.int 0) (putF "here" (.int 0) (putF "takes" (.ref TT) (putF "loaded" (.ref p4) [])))) = hF p4 TT m 0 0 := hF_new p4 TT m 0 0
    rw [enew]
    have xm : x ≠ m := ne_of_none e10 nm
    have xmc : x ≠ mc := ne_of_none e10 nmc
    have hM' : MachAt c H11 m mc (loaded (padded l)) := by rw [mk0_loaded pl pb]; exact hM
    obtain ⟨dm, im⟩ := hM'.ins
    have ne12 : ∀ {b : Addr} {o : HO}, H11 b = some o → b ≠ x → (upd H11 x (.ins c.H dx (hF p4 TT m 0 0))) b = some o := fun {b o} e ne => by rw [upd_ne ne]; exact e
    refine kk _ ⟨x, p4, TT, m, mc, fun _ => t, fun _ => p, fun _ => q⟩ (labH x p4 TT m mc t p q) rfl ⟨⟨dx, upd_same⟩, ne12 (s11 _ _ el) xp4.symm, ne12 (s11 _ _ eT) xT.symm, fun i hi => ?_, ⟨⟨dm, ne12 im xm.symm⟩, ne12 hM'.lst xmc.symm, hM'.wf⟩, ?_⟩ fun b o e ne => ?_
    · have z : i = 0 := Nat.lt_one_iff.mp hi
      subst z
      exact ⟨⟨dt, ne12 (s11 _ _ et) xt.symm⟩, ne12 (s11 _ _ ep') xp.symm, ne12 (s11 _ _ eq') xq.symm⟩
    · have mT : m ≠ TT := (ne_of_none eT nm).symm
      have ml : m ≠ p4 := (ne_of_none el nm).symm
      have mcl : mc ≠ p4 := (ne_of_none el nmc).symm
      have mcT : mc ≠ TT := (ne_of_none eT nmc).symm
      have tm : t ≠ m := ne_of_none et nm
      have tmc : t ≠ mc := ne_of_none et nmc
      have pm : p ≠ m := ne_of_none ep' nm
      have pmc : p ≠ mc := ne_of_none ep' nmc
      have qm : q ≠ m := ne_of_none eq' nm
      have qmc : q ≠ mc := ne_of_none eq' nmc
      refine ⟨?_, ?_, ?_, ?_, ?_, fun i hi => ?_, fun i hi => ?_, fun i hi => ?_⟩
      · show labH x p4 TT m mc t p q x = _; unfold labH; rw [if_pos rfl]
      · show labH x p4 TT m mc t p q p4 = _; unfold labH; rw [if_neg xp4.symm, if_pos rfl]
      · show labH x p4 TT m mc t p q TT = _; unfold labH; rw [if_neg xT.symm, if_neg lT.symm, if_pos rfl]
      · show labH x p4 TT m mc t p q m = _; unfold labH; rw [if_neg xm.symm, if_neg ml, if_neg mT, if_pos rfl]
      · show labH x p4 TT m mc t p q mc = _; unfold labH; rw [if_neg xmc.symm, if_neg mcl, if_neg mcT, if_neg hM.ne.symm, if_pos rfl]
      · have z : i = 0 := Nat.lt_one_iff.mp hi
        subst z
        show labH x p4 TT m mc t p q t = _; unfold labH; rw [if_neg xt.symm, if_neg lt.symm, if_neg tT, if_neg tm, if_neg tmc, if_pos rfl]
      · have z : i = 0 := Nat.lt_one_iff.mp hi
        subst z
        show labH x p4 TT m mc t p q p = _; unfold labH; rw [if_neg xp.symm, if_neg lp.symm, if_neg pT, if_neg pm, if_neg pmc, if_neg pt, if_pos rfl]
      · have z : i = 0 := Nat.lt_one_iff.mp hi
        subst z
        show labH x p4 TT m mc t p q q = _; unfold labH; rw [if_neg xq.symm, if_neg lq.symm, if_neg qT, if_neg qm, if_neg qmc, if_neg qt, if_neg pq.symm, if_pos rfl]
    · have e5' : H5 b = some o := off5 _ _ (s4 _ _ e) ne
      have e9 : H9 b = some o := s59 _ _ e5'
      have e10' : H10 b = some o := off10 _ _ e9 ne
      refine ⟨ne12 (s11 _ _ e10') ne, ?_⟩
      unfold labH
      rw [if_neg ne, if_neg (ne_of_none e np4), if_neg (ne_of_none (s8 _ _ (s7 _ _ (s6 _ _ e5'))) nT), if_neg (ne_of_none e10' nm), if_neg (ne_of_none e10' nmc), if_neg (ne_of_none (s7 _ _ (s6 _ _ e5')) nt), if_neg (ne_of_none e5' n), if_neg (ne_of_none (s6 _ _ e5') nq)]
end
end Tk
-- the part TkCalls1
set_option maxRecDepth 100000
set_option maxHeartbeats 4000000
namespace Tk
open PySem PySem.Spec PyProof.Rows L2
open CsBase (Mach byteAt put inA inX opAt rests upTo frame frames loaded told mark)

/-! ### a refusal -/
def spDInit (K : PySem.W.Frag) (c : Cs) : Sp := fun vs H Q _ => ∃ (a : Addr) (n : Int), vs = [.ref a, .int n] ∧ H a = some (exo a c.D none) ∧
  ∀ x, H x = none → x ≠ a → Q .non (upd (upd H a (exo a c.D (some x))) x (exd x [("number", .int n)]))
/-- Denied(n) is raised, all that was tracked stands -/
def Refuse (c : Cs) (H : Hp) (E : XK) (n : Int) : Prop := ∀ d H', H d = none → H' d = some (.xd [("number", .int n)]) → Same H H' → E (.ref c.D) (some d) H'
theorem Refuse.same {c : Cs} {H H1 : Hp} {E : XK} {n : Int} (r : Refuse c H E n) (s : Same H H1) : Refuse c H1 E n := fun d H' h1 h2 h3 => r d H' (s.free h1) h2 (s.trans h3)
def spNeed (c : Cs) : Sp := fun vs H Q E => ∃ (b : Bool) (n : Int), vs = [.bl b, .int n] ∧ (b = true → Q .non H) ∧ (b = false → Refuse c H E n)
theorem d_init {K : PySem.W.Frag} {mg : Str → Option Value} {c : Cs} (T : Txt K mg c) : ∃ (f : Addr) (fd : FuncData), PySem.W.findIn K (.ref c.D) "__init__" = some (some (.ref f)) ∧ PySem.W.typeIn K (.ref f) = some (.type "function") ∧ Binds K fd ["self", "number"] [] ∧
    ∀ (P : Program) (w : World) (base : Heap), FnOk P w K mg base CX0 1 f fd ["self", "number"] (spDInit K c) := by
  obtain ⟨f, fd, h1, h2, F, b⟩ := T.i_Denied
  refine ⟨f, fd, h1, h2, b, fun P w base => F.ok sc_Denied_init (fun vs H Q E h => ?_) (fun cdv A outer s H vs Q E hr h => ⟨_, (pss_cons (ps_expr (pe_base T.oxe (by rfl) T.n_Exception (pa_cons (pv 0) (pa_cons (pv 1) pa_nil)))) (pss_one (ps_only T.oxe T.noNumber (pv 0) (pv 1)))), ?_⟩)⟩
  · obtain ⟨a, n, rfl, _⟩ := h; rfl
  · obtain ⟨a, n, rfl, ha, k⟩ := h
    exact ⟨_, rfl, _, rfl, a, .int n, rfl, ha, _, rfl, _, rfl, a, rfl, ha, k⟩
section
variable {X : Cx} {c : Cs} {e : Expr} {ta : TA} {p pos : Pos}
theorem pc_deny (T : Txt X.K X.mg c) (hr : Room 2 X.A) (ha : PA X [e] ta) (hg : Gl X "Denied" := by rfl)
    (he : starEach (e :: []) X.env = (false, eval e X.env) :: starEach [] X.env := by rfl) (hpl : (backTo pos (starEach [] X.env)).any (·.1) = false := by rfl) :
    PMk X (.Call (.Name "Denied" p) [e] [] pos) (tMkO c.D (spDInit X.K c) [] ta) := by
  obtain ⟨f, fd, h1, h2, b, F⟩ := d_init T
  exact pmk_err T.oxe h1 h2 (F X.prog X.w X.base) hr b pass0 hg T.gDenied ha (by decide) he hpl
end
/-- what the reading of Denied(n) asks -/
theorem deny_ev {K : PySem.W.Frag} {c : Cs} {H : Hp} {n : Int} {E : XK} (r : Refuse c H E n) : [V.int n].length ≤ 1000 ∧ ∀ a, H a = none → spDInit K c (.ref a :: ([V.int n] ++ [])) (upd H a (exo a c.D none))
    (fun v H2 => v = .non ∧ ∃ (d : Addr) (fs : List (Str × V)), H2 a = some (exo a c.D (some d)) ∧ H2 d = some (exd d fs) ∧ H d = none ∧ E (.ref c.D) (some d) (upd (del H2 a) d (.xd fs))) (fun _ _ _ => False) := by
  refine ⟨by show 1 ≤ 1000; decide, fun a ha => ⟨a, n, rfl, upd_same, fun dx hdx ne => ⟨rfl, dx, [("number", .int n)], by rw [upd_ne (Ne.symm ne), upd_same], upd_same, ?_, ?_⟩⟩⟩
  · rw [upd_ne ne] at hdx; exact hdx
  · have hd : H dx = none := by rw [upd_ne ne] at hdx; exact hdx
    refine r dx _ hd upd_same fun b o e => ?_
    rw [upd_ne (ne_of_none e hd), del_ne (ne_of_none e ha), upd_ne (ne_of_none e hd), upd_ne (ne_of_none e ha), upd_ne (ne_of_none e ha)]
    exact e

/-! ### promises -/
def spBytes (K : PySem.W.Frag) : Sp := fun vs H Q _ => ∃ (a : Addr) (ns : List Int), vs = [.ref a] ∧ SqL K H a (ns.map V.int) ∧ ns.length ≤ 20000 ∧ ∀ H', Same H H' → Q (.bl (ns.all Cs05.isByte)) H'
def spTakeOf (c : Cs) : Sp := fun vs H Q E => ∃ (L : Addr → Option Nat) (d : Ad) (s : Hs) (k : Int), vs = [.ref d.h, .int k] ∧ HAt c H L d s ∧ (isTk s k = true → Q (.ref (d.t k.toNat)) H) ∧ (isTk s k = false → Refuse c H E (-2))
def spWhere (c : Cs) : Sp := fun vs H Q _ => ∃ (L : Addr → Option Nat) (d : Ad) (s : Hs), vs = [.ref d.h] ∧ HAt c H L d s ∧ ∀ p H', Same H H' → H p = none → H' p = some (.lst ((wh s).map V.int)) → Q (.ref p) H'
def spRoom (K : PySem.W.Frag) (c : Cs) : Sp := fun vs H Q E => ∃ (L : Addr → Option Nat) (d : Ad) (s : Hs) (k p : Nat) (a : Addr) (xs : List V), vs = [.ref d.h, .int (k : Int), .int (p : Int), .ref a] ∧ HAt c H L d s ∧ k < s.ts.length ∧ SqL K H a xs ∧
  (room s k p xs.length = true → Q .non H) ∧ (room s k p xs.length = false → Refuse c H E (-5))
def spPlayAll (K : PySem.W.Frag) (c : Cs) : Sp := fun vs H Q _ => ∃ (L : Addr → Option Nat) (d : Ad) (s : Hs) (a : Addr) (l : List Nat), vs = [.ref d.h, .ref a] ∧ HAt c H L d s ∧ Good s ∧ H a = some (.lst (vN l)) ∧ L a = none ∧ (∀ v ∈ l, v < 256) ∧ room s s.here s.pl l.length = true ∧
  ∀ H' L' d' p, d'.h = d.h → HAt c H' L' d' (playAll s l) → Fr L H L' H' → New L H p → H' p = some (.lst ((wh (playAll s l)).map V.int)) → Q (.ref p) H'
theorem playAll_take {s : Hs} {l : List Nat} {i z : Nat} (h : l[i]? = some z) : playAll s (l.take (i + 1)) = playPad (playAll s (l.take i)) z := by
  unfold playAll; rw [take_next h, List.foldl_append]; rfl
/-- pads may be played: each of them -/
theorem room_each : ∀ (l : List Nat) {s : Hs}, Good s → (∀ v ∈ l, v < 256) → room s s.here s.pl l.length = true → ∀ i, i < l.length → Good (playAll s (l.take i)) ∧ canPlay (playAll s (l.take i))
  | [], _, _, _, _, i, h => absurd h (Nat.not_lt_zero i)
  | v :: l, s, g, hb, r, i, h => by
    obtain ⟨c, q2⟩ := room_first.mp r
    cases i with
    | zero => exact ⟨g, c⟩
    | succ i =>
      have hv := hb v List.mem_cons_self
      exact room_each l (g.play hv c).1 (fun w hw => hb w (List.mem_cons_of_mem _ hw)) ((room_next g hv c).mpr (.inr q2)) i (Nat.lt_of_succ_lt_succ h)
theorem lc_yes {σ : L2.St} {H : Hp} {F : TE} {G : VK} {R : Hp → Prop} (h : F σ H G) : tYes σ H (fun b H3 => if b = true then F σ H3 G else R H3) := by
  show (if true = true then F σ H G else R H)
  rw [if_pos rfl]; exact h
theorem isTk_cases {s : Hs} {k : Int} : isTk s k = true ↔ 0 ≤ k ∧ k < (s.ts.length : Int) := by
  unfold isTk; rw [Bool.and_eq_true, decide_eq_true_eq, decide_eq_true_eq]
section
variable {P : Program} {w : World} {K : PySem.W.Frag} {mg : Str → Option Value} {base : Heap} {c : Cs}
theorem c_need (T : Txt K mg c) : Cal P w K mg base (L2.CX P w) 3 "need" ["holds", "number"] (spNeed c) := by
  refine T.d_need.okX sc_need (fun vs H Q E h => ?_) (fun q f cdv A outer s H vs Q E hr h => ⟨_, (pss_one (ps_if (pt_not (pt_val (pv 0))) (pss_one (ps_raise rfl (takes_of rfl rfl rfl rfl) (pc_deny T (hr.mono (by decide)) (pa_cons (pv 1) pa_nil)))) pss_nil)), ?_⟩)
  · obtain ⟨b, n, rfl, _⟩ := h; rfl
  · obtain ⟨b, n, rfl, h1, h2⟩ := h
    refine ⟨_, rfl, _, rfl, ?_⟩
    cases b with
    | true => exact itF rfl (h1 rfl)
    | false => exact itT rfl ⟨_, rfl, deny_ev (h2 rfl)⟩
theorem c_are_bytes (T : Txt K mg c) : Cal P w K mg base CX0 1 "are_bytes" ["numbers"] (spBytes K) := by
  refine T.d_are_bytes.ok sc_are_bytes (fun vs H Q E h => ?_) (fun q f cdv A outer s H vs Q E hr h => ⟨_, (pss_one (ps_ret (pe_callB (cr_all (by rfl)) (by rfl) T.n_all (by decide +kernel) (pa_cons (pe_lc (own := [("n", 1)]) (g := gName 1) (tt := tYes) (by rfl) sc_are_bytes.nd (pi_list (pv 0)) (blkOk_by (own := [("n", 1)]) (N := ["numbers", "n"]) (sc := defScope s_are_bytes) (by decide +kernel)) (fun _ _ _ _ _ => pg_name (i := 1) sc_are_bytes.nd rfl (Or.inl rfl)) (fun _ _ _ _ _ => pts_nil) (fun _ _ _ _ _ => (pe_chain op_le op_le pe_int (pv 1) pe_int))) pa_nil)))), ?_⟩)
  · obtain ⟨a, ns, rfl, _⟩ := h; rfl
  · obtain ⟨a, ns, rfl, hS, hl, k⟩ := h
    refine ⟨_, rfl, a, rfl, ⟨_, hS⟩, fun D hD => lc_list (K := K) (a := a) (xs := ns.map V.int) (fun i H' => Same H H' ∧ H' D = some (.lst (((ns.take i).map Cs05.isByte).map V.bl))) ⟨Same.new hD, upd_same⟩ (fun i H' _ p => p.1.seq hS) ?_ ?_⟩
    · rintro i y H' hi ⟨s1, e1⟩
      obtain ⟨z, hz, rfl⟩ : ∃ z, ns[i]? = some z ∧ y = V.int z := by
        rw [List.getElem?_map] at hi
        cases e : ns[i]? with
        | none => rw [e] at hi; cases hi
        | some z => rw [e] at hi; exact ⟨z, rfl, (Option.some.inj hi).symm⟩
      have il : i < ns.length := (List.getElem?_eq_some_iff.mp hz).1
      have fin : ∀ b : Bool, b = Cs05.isByte z → ∃ acc, H' D = some (.lst acc) ∧ acc.length < sizeLine ∧ (Same H (upd H' D (.lst (acc ++ [V.bl b]))) ∧ (upd H' D (.lst (acc ++ [V.bl b]))) D = some (.lst (((ns.take (i + 1)).map Cs05.isByte).map V.bl))) := fun b eb => by
        refine ⟨_, e1, ?_, fun x o e => ?_, ?_⟩
        · rw [List.length_map, List.length_map, List.length_take]
          exact Nat.lt_of_le_of_lt (show min i ns.length ≤ 20000 by omega) (by decide)
        · rw [upd_ne (ne_of_none e hD)]; exact s1 _ _ e
        · rw [upd_same, List.take_add_one, hz, List.map_append, List.map_append, eb]; rfl
      refine ⟨rfl, lc_yes ?_⟩
      refine ⟨_, rfl, _, _, rfl, rfl, _, rfl, ?_⟩
      by_cases c1 : (0 : Int) ≤ z
      · refine itT (decide_eq_true c1) ⟨_, _, rfl, rfl, ?_⟩
        refine fin _ ?_
        unfold Cs05.isByte; rw [decide_eq_true c1]; rfl
      · refine itF (decide_eq_false c1) ?_
        refine fin _ ?_
        unfold Cs05.isByte; rw [decide_eq_false c1]; rfl
    · rintro H' ⟨s1, e1⟩
      rw [List.length_map, List.take_length] at e1
      refine ⟨D, ns.map Cs05.isByte, rfl, SqL.of e1, ?_⟩
      rw [List.all_map]
      exact k H' s1
theorem c_take_of (T : Txt K mg c) : Cal P w K mg base (L2.CX P w) 4 "take_of" ["house", "k"] (spTakeOf c) := by
  refine T.d_take_of.okX sc_take_of (fun vs H Q E h => ?_) (fun q f cdv A outer s H vs Q E hr h => ⟨_, (pss_cons (ps_expr (pc_call (c_need T) (hr.mono (by decide)) (by rfl) (passes_call (takes_of rfl rfl rfl rfl) (fun _ _ _ _ h => h)) (pa_cons (pe_chain op_le op_lt pe_int (pv 1) (pe_callB call_len_seq (by rfl) T.n_len PySem.boot_len (pa_cons (pe_fld (pv 0) rfl) pa_nil))) (pa_cons (pe_un un_neg pe_int) pa_nil)))) (pss_one (ps_ret (pe_ix ix_list (pe_fld (pv 0) rfl) (pv 1) (fun _ _ => rfl))))), ?_⟩)
  · obtain ⟨L, d, s, k, rfl, _⟩ := h; rfl
  · obtain ⟨L, d, s, k, rfl, hH, h1, h2⟩ := h
    obtain ⟨dx, hi⟩ := hH.ins
    refine ⟨_, rfl, _, _, rfl, rfl, _, rfl, ?_⟩
    by_cases c1 : (0 : Int) ≤ k
    · refine itT (decide_eq_true c1) ⟨_, rfl, d.h, c.H, dx, _, _, rfl, hi, T.clH, T.noH_takes, hF_takes _ _ _ _ _, d.T, _, rfl, .inl (SqL.of hH.tks), _, _, rfl, rfl, _, rfl, _, -2, rfl, fun b => ?_, fun b => ?_⟩
      · have c2 : k < (s.ts.length : Int) := by have := of_decide_eq_true b; rw [refs_len] at this; exact this
        refine ⟨_, rfl, d.h, c.H, dx, _, _, rfl, hi, T.clH, T.noH_takes, hF_takes _ _ _ _ _, _, rfl, d.T, _, _, _, rfl, rfl, SqL.of hH.tks, at_of (j := k.toNat) (by omega) (refs_get (by omega)), h1 (isTk_cases.mpr ⟨c1, c2⟩)⟩
      · have c2 : ¬ k < (s.ts.length : Int) := by have := of_decide_eq_false b; rw [refs_len] at this; exact this
        refine h2 ?_
        cases e : isTk s k with
        | false => rfl
        | true => exact absurd (isTk_cases.mp e).2 c2
    · refine itF (decide_eq_false c1) ⟨_, rfl, _, -2, rfl, fun b => absurd b (by decide), fun b => h2 ?_⟩
      cases e : isTk s k with
      | false => rfl
      | true => exact absurd (isTk_cases.mp e).1 c1
theorem c_where (T : Txt K mg c) : Cal P w K mg base CX0 3 "where" ["house"] (spWhere c) := by
  refine T.d_where.ok sc_where (fun vs H Q E h => ?_) (fun q f cdv A outer s H vs Q E hr h => ⟨_, (pss_one (ps_ret (pe_lst (pa_cons (pe_fld (pv 0) rfl) (pa_cons (pe_fld (pv 0) rfl) (pa_cons (pc_call (c_mark_of T) (hr.mono (by decide)) (by rfl) pass0 (pa_cons (pe_fld (pv 0) rfl) pa_nil)) pa_nil)))))), ?_⟩)
  · obtain ⟨L, d, s, rfl, _⟩ := h; rfl
  · obtain ⟨L, d, s, rfl, hH, k⟩ := h
    obtain ⟨dx, hi⟩ := hH.ins
    refine ⟨_, rfl, d.h, c.H, dx, _, _, rfl, hi, T.clH, T.noH_here, hF_here _ _ _ _ _, _, rfl, d.h, c.H, dx, _, _, rfl, hi, T.clH, T.noH_played, hF_played _ _ _ _ _, _, rfl, d.h, c.H, dx, _, _, rfl, hi, T.clH, T.noH_machine, hF_machine _ _ _ _ _, d.m, d.mc, _, rfl, hH.mach, fun H1 s1 => ⟨(by show 3 ≤ sizeLine; decide), fun p hp => ?_⟩⟩
    exact k p _ (s1.trans (Same.new hp)) (s1.free hp) upd_same
theorem c_need_room (T : Txt K mg c) : Cal P w K mg base (L2.CX P w) 4 "need_room" ["house", "here", "played", "pads"] (spRoom K c) := by
  refine T.d_need_room.okX sc_need_room (fun vs H Q E h => ?_) (fun q f cdv A outer s H vs Q E hr h => ⟨_, (pss_one (ps_if (pt_cmpR op_gt (pe_callB call_len_seq (by rfl) T.n_len PySem.boot_len (pa_cons (pv 3) pa_nil)) pe_int (nomark _)) (pss_cons (ps_expr (pc_call (c_need T) (hr.mono (by decide)) (by rfl) (passes_call (takes_of rfl rfl rfl rfl) (fun _ _ _ _ h => h)) (pa_cons (pe_cmpR op_le (pe_op op_add (pv 2) (pe_callB call_len_seq (by rfl) T.n_len PySem.boot_len (pa_cons (pv 3) pa_nil))) (pc_int rfl T.g_MOST_FRAMES) (nomark _)) (pa_cons (pe_un un_neg pe_int) pa_nil)))) (pss_one (ps_expr (pc_call (c_need T) (hr.mono (by decide)) (by rfl) (passes_call (takes_of rfl rfl rfl rfl) (fun _ _ _ _ h => h)) (pa_cons (pe_or (pe_cmpR op_eq (pv 2) (pe_callB call_len_seq (by rfl) T.n_len PySem.boot_len (pa_cons (pe_fld (pe_ix ix_list (pe_fld (pv 0) rfl) (pv 1) (fun _ _ => rfl)) rfl) pa_nil)) (nomark _)) (pe_one (pe_cmpR op_lt (pe_callB call_len_seq (by rfl) T.n_len PySem.boot_len (pa_cons (pe_fld (pv 0) rfl) pa_nil)) (pc_int rfl T.g_MOST_TAKES) (nomark _)))) (pa_cons (pe_un un_neg pe_int) pa_nil)))))) pss_nil)), ?_⟩)
  · obtain ⟨L, d, s, k, p, a, xs, rfl, _⟩ := h; rfl
  · obtain ⟨L, d, s, k, p, a, xs, rfl, hH, hk, hS, h1, h2⟩ := h
    obtain ⟨dx, hi⟩ := hH.ins
    obtain ⟨tx, ti⟩ := (hH.tk k hk).ins
    have hp := (hH.tk k hk).pads
    refine ⟨_, rfl, a, _, rfl, .inl hS, _, _, rfl, rfl, _, rfl, ?_⟩
    have no : ¬ (xs.length = 0 ∨ (p + xs.length ≤ 60 ∧ (p = (s.tk k).pads.length ∨ s.ts.length < 12))) → Refuse c H E (-5) := fun z => h2 (by
      cases e : room s k p xs.length with
      | false => rfl
      | true => exact absurd (room_iff.mp e) z)
    by_cases c0 : xs.length = 0
    · refine itF (decide_eq_false (show ¬ (0 : Int) < (xs.length : Int) by omega)) ?_
      exact h1 (room_iff.mpr (.inl c0))
    · refine itT (decide_eq_true (show (0 : Int) < (xs.length : Int) by omega)) ?_
      refine ⟨_, rfl, _, rfl, a, _, rfl, .inl hS, _, _, rfl, rfl, _, _, rfl, rfl, _, rfl, _, -5, rfl, fun b => ?_, fun b => no ?_⟩
      · have c1 : p + xs.length ≤ 60 := by have := of_decide_eq_true b; omega
        refine ⟨_, rfl, _, rfl, d.h, c.H, dx, _, _, rfl, hi, T.clH, T.noH_takes, hF_takes _ _ _ _ _, _, rfl, d.T, _, _, _, rfl, rfl, SqL.of hH.tks, atI_nat (refs_get hk), d.t k, c.T, tx, _, _, rfl, ti, T.clT, T.noT_pads, tF_pads _ _ _ _, d.p k, _, rfl, .inl (SqL.of hp), rfl, _, rfl, ?_⟩
        rw [vN_len, dec_int]
        by_cases c2 : p = (s.tk k).pads.length
        · refine itT (by simp [c2]) ⟨_, rfl, _, -5, rfl, fun _ => h1 (room_iff.mpr (.inr ⟨c1, .inl c2⟩)), fun b => absurd b (by decide)⟩
        · refine itF (by simp [c2]) ⟨_, rfl, d.h, c.H, dx, _, _, rfl, hi, T.clH, T.noH_takes, hF_takes _ _ _ _ _, d.T, _, rfl, .inl (SqL.of hH.tks), _, _, rfl, rfl, _, rfl, _, -5, rfl, fun b => ?_, fun b => no ?_⟩
          · have c3 : s.ts.length < 12 := by have := of_decide_eq_true b; rw [refs_len] at this; omega
            exact h1 (room_iff.mpr (.inr ⟨c1, .inr c3⟩))
          · have c3 : ¬ s.ts.length < 12 := by have := of_decide_eq_false b; rw [refs_len] at this; omega
            rintro (z | ⟨_, z | z⟩)
            · exact c0 z
            · exact c2 z
            · exact c3 z
      · have c1 : ¬ p + xs.length ≤ 60 := by have := of_decide_eq_false b; omega
        rintro (z | ⟨z, _⟩)
        · exact c0 z
        · exact c1 z
theorem c_play_all (T : Txt K mg c) : Cal P w K mg base CX0 6 "play_all" ["house", "pads"] (spPlayAll K c) := by
  refine T.d_play_all.ok sc_play_all (fun vs H Q E h => ?_) (fun q f cdv A outer s H vs Q E hr h => ⟨_, (pss_cons (ps_for PassesOwn.never rfl (pi_list (pv 1)) (pg_name (i := 2) sc_play_all.nd rfl (Or.inl rfl)) (pss_one (ps_expr (pc_call (c_play_pad T) (hr.mono (by decide)) (by rfl) pass0 (pa_cons (pv 0) (pa_cons (pv 2) pa_nil)))))) (pss_one (ps_ret (pc_call (c_where T) (hr.mono (by decide)) (by rfl) pass0 (pa_cons (pv 0) pa_nil))))), ?_⟩)
  · obtain ⟨L, d, s, a, l, rfl, _⟩ := h; rfl
  · obtain ⟨L, d, s, a, l, rfl, hH, g, ha, la, hb, hr', kk⟩ := h
    refine ⟨_, rfl, a, rfl, ⟨_, SqL.of ha⟩, for_list (K := K) (a := a) (xs := vN l) (fun i σ H' => ∃ (L' : Addr → Option Nat) (d' : Ad) (v : Option V), σ = [some (.ref d.h), some (.ref a), v] ∧ d'.h = d.h ∧ HAt c H' L' d' (playAll s (l.take i)) ∧ Fr L H L' H')
      ⟨L, d, none, rfl, rfl, hH, Fr.refl _ _⟩ (fun i σ H' _ ⟨L', d', v, _, _, _, f⟩ => SqL.of (f _ _ ha la).1) ?_ ?_⟩
    · rintro i y σ H' hi' ⟨L', d', v, rfl, ed, h', f'⟩
      obtain ⟨z, hz, rfl⟩ := of_vN hi'
      have il : i < l.length := (List.getElem?_eq_some_iff.mp hz).1
      obtain ⟨g', cp⟩ := room_each l g hb hr' i il
      refine ⟨_, rfl, _, rfl, L', d', _, z, by rw [ed]; rfl, h', g', hb z (List.mem_of_getElem? hz), fun H3 L3 d3 e3 h3 f3 => ?_⟩
      exact ⟨L3, d3, some (.int (z : Int)), rfl, e3.trans ed, by rw [playAll_take hz]; exact h3, f'.trans f3⟩
    · rintro σ H' ⟨L', d', v, rfl, ed, h', f'⟩
      rw [vN_len, List.take_length] at h'
      refine ⟨_, rfl, L', d', _, by rw [ed]; rfl, h', fun p H3 s3 np ep => ?_⟩
      exact kk H3 L' d' p ed (h'.same s3) (f'.trans (Fr.same s3)) (New.of f' np) ep
end
end Tk
-- the part TkCalls2
set_option maxRecDepth 100000
set_option maxHeartbeats 4000000
namespace Tk
open PySem PySem.Spec PyProof.Rows L2
open CsBase (Mach byteAt put inA inX opAt rests upTo frame frames loaded told mark)

/-- what a call does: a refusal, or an answer in a new list and the house behind it -/
def Ansr (c : Cs) (r : Res) (L : Addr → Option Nat) (d : Ad) (H : Hp) (Q : VK) (E : XK) : Prop := match r with
  | .error n => Refuse c H E n
  | .ok (s', ans) => ∀ (H' : Hp) (L' : Addr → Option Nat) (d' : Ad) (p : Addr), d'.h = d.h → HAt c H' L' d' s' → Fr L H L' H' → New L H p → H' p = some (.lst (ans.map V.int)) → Q (.ref p) H'
theorem Ansr.same {c : Cs} {r : Res} {L : Addr → Option Nat} {d : Ad} {H H1 : Hp} {Q : VK} {E : XK} (h : Ansr c r L d H Q E) (s : Same H H1) : Ansr c r L d H1 Q E := by
  cases r with
  | error n => exact Refuse.same h s
  | ok x => exact fun H' L' d' p e hH f nw ep => h H' L' d' p e hH ((Fr.same s).trans f) (New.back (Fr.same s) nw) ep
theorem ints_vN {ns : List Int} (h : ns.all Cs05.isByte = true) : ns.map V.int = vN (ns.map Int.toNat) := by
  unfold vN
  rw [List.map_map]
  refine List.map_congr_left fun z hz => ?_
  have := List.all_eq_true.mp h z hz
  unfold Cs05.isByte at this
  rw [Bool.and_eq_true, decide_eq_true_eq, decide_eq_true_eq] at this
  show V.int z = V.int ((z.toNat : Nat) : Int)
  congr 1; omega
theorem vN_intsN (l : List Nat) : (intsN l).map V.int = vN l := (vN_ints l).symm

/-! ### the reader -/
def CAt (c : Cs) (H : Hp) (r n : Addr) (i : Nat) : Prop := ∃ dx, H r = some (.ins c.C dx (cF n i))
/-- all but r stands -/
def But (r : Addr) (H H' : Hp) : Prop := ∀ b o, H b = some o → b ≠ r → H' b = some o
theorem But.refl (r : Addr) (H : Hp) : But r H H := fun _ _ e _ => e
theorem But.trans {r : Addr} {H H1 H2 : Hp} (a : But r H H1) (b : But r H1 H2) : But r H H2 := fun x o e n => b x o (a x o e n) n
theorem But.same {r : Addr} {H H' : Hp} (s : Same H H') : But r H H' := fun x o e _ => s x o e
theorem But.upd {r : Addr} {H : Hp} {o : HO} : But r H (upd H r o) := fun x u e n => by rw [upd_ne n]; exact e
/-- a list that is read stands where an instance changes -/
theorem sq_but {K : PySem.W.Frag} {H H' : Hp} {a r C dx : Addr} {fs : List (Str × V)} {xs : List V} (h : SqL K H a xs) (hr : H r = some (.ins C dx fs)) (b : But r H H') : SqL K H' a xs := by
  rcases h with (h | ⟨o, h⟩) | h
  · exact .inl (.inl (b _ _ h (ne_of h hr (by intro z; cases z))))
  · exact .inl (.inr ⟨o, b _ _ h (ne_of h hr (by intro z; cases z))⟩)
  · exact .inr h
def spCInit (c : Cs) : Sp := fun vs H Q _ => ∃ (x dx a : Addr), vs = [.ref x, .ref a] ∧ H x = some (.ins c.C dx []) ∧ ∀ H', CAt c H' x a 0 → But x H H' → Q .non H'
theorem onMakeC {c : Cs} {H : Hp} {a : Addr} {R : Addr → Hp → Prop} {E : XK} (k : ∀ x H2, H x = none → CAt c H2 x a 0 → Same H H2 → R x H2) :
    ∀ x dx, H x = none → H dx = none → dx ≠ x → spCInit c (.ref x :: ([.ref a] ++ [])) (upd (upd H dx (.own x)) x (.ins c.C dx [])) (fun v H2 => v = .non ∧ R x H2) E := fun x dx nx nd ne =>
  ⟨x, dx, a, rfl, upd_same, fun H' hi kp => ⟨rfl, k x H' nx hi (Same.made nx nd kp)⟩⟩
def spNextN (K : PySem.W.Frag) (c : Cs) : Sp := fun vs H Q _ => ∃ (r a : Addr) (ns : List Int) (i : Nat) (z : Int), vs = [.ref r] ∧ CAt c H r a i ∧ SqL K H a (ns.map V.int) ∧ ns[i]? = some z ∧ ∀ H', CAt c H' r a (i + 1) → But r H H' → Q (.int z) H'
def spNextR (K : PySem.W.Frag) (c : Cs) : Sp := fun vs H Q _ => ∃ (r a : Addr) (ns : List Int) (i n : Nat), vs = [.ref r] ∧ CAt c H r a i ∧ SqL K H a (ns.map V.int) ∧ ns[i]? = some (n : Int) ∧ i + 1 + n ≤ ns.length ∧
  ∀ H' p, CAt c H' r a (i + 1 + n) → But r H H' → H p = none → H' p = some (.lst (((ns.drop (i + 1)).take n).map V.int)) → Q (.ref p) H'
theorem cut_row (ns : List Int) (i n : Nat) (h : i + n ≤ ns.length) : cutV (ns.map V.int) (some (i : Int)) (some ((i + n : Nat) : Int)) = ((ns.drop i).take n).map V.int := by
  unfold cutV
  rw [HT.sIx_nat, HT.sIx_nat, List.length_map, Nat.min_eq_left (show i ≤ ns.length by omega), Nat.min_eq_left h, Nat.add_sub_cancel_left, List.map_take, List.map_drop]

/-! ### promises -/
def spBegin (K : PySem.W.Frag) (c : Cs) : Sp := fun vs H Q E => ∃ (a : Addr) (ns : List Int), vs = [.ref a] ∧ SqL K H a (ns.map V.int) ∧ ns.length ≤ 20000 ∧
  (ns.length ≤ 128 ∧ ns.all Cs05.isByte = true → ∀ H' L' d', HAt c H' L' d' (fresh (ns.map Int.toNat)) → (∀ b o, H b = some o → H' b = some o ∧ L' b = none) → Q (.ref d'.h) H') ∧ (¬ (ns.length ≤ 128 ∧ ns.all Cs05.isByte = true) → Refuse c H E (-1))
def spPlay (c : Cs) : Sp := fun vs H Q E => ∃ (L : Addr → Option Nat) (d : Ad) (s : Hs) (a : Addr) (ns : List Int), vs = [.ref d.h, .ref a] ∧ HAt c H L d s ∧ Good s ∧ H a = some (.lst (ns.map V.int)) ∧ L a = none ∧ ns.length ≤ 20000 ∧ Ansr c (mPlay s ns) L d H Q E
def sp1 (c : Cs) (f : Hs → Int → Res) : Sp := fun vs H Q E => ∃ (L : Addr → Option Nat) (d : Ad) (s : Hs) (n : Int), vs = [.ref d.h, .int n] ∧ HAt c H L d s ∧ Good s ∧ Ansr c (f s n) L d H Q E
def sp0 (c : Cs) (f : Hs → Res) : Sp := fun vs H Q E => ∃ (L : Addr → Option Nat) (d : Ad) (s : Hs), vs = [.ref d.h] ∧ HAt c H L d s ∧ Good s ∧ Ansr c (f s) L d H Q E
def sp2 (c : Cs) (f : Hs → Int → Int → Res) : Sp := fun vs H Q E => ∃ (L : Addr → Option Nat) (d : Ad) (s : Hs) (n m : Int), vs = [.ref d.h, .int n, .int m] ∧ HAt c H L d s ∧ Good s ∧ Ansr c (f s n m) L d H Q E
def sp3 (c : Cs) (f : Hs → Int → Int → Int → Res) : Sp := fun vs H Q E => ∃ (L : Addr → Option Nat) (d : Ad) (s : Hs) (n m k : Int), vs = [.ref d.h, .int n, .int m, .int k] ∧ HAt c H L d s ∧ Good s ∧ Ansr c (f s n m k) L d H Q E
def spFrameOk (c : Cs) : Sp := fun vs H Q E => ∃ (L : Addr → Option Nat) (d : Ad) (s : Hs) (t : Int), vs = [.ref d.h, .int t] ∧ HAt c H L d s ∧ Good s ∧ (isFr s t = true → Q .non H) ∧ (isFr s t = false → Refuse c H E (-3))
theorem isFr_cases {s : Hs} {t : Int} : isFr s t = true ↔ 0 ≤ t ∧ t < (s.cur.pads.length : Int) := by
  unfold isFr; rw [Bool.and_eq_true, decide_eq_true_eq, decide_eq_true_eq]
theorem bool_not {b : Bool} (h : ¬ b = true) : b = false := by cases b <;> simp_all
section
variable {P : Program} {w : World} {K : PySem.W.Frag} {mg : Str → Option Value} {base : Heap} {c : Cs}
theorem c_Calls_init (T : Txt K mg c) : CalM P w K mg base c.C 1 "Calls" ["self", "numbers"] (spCInit c) := by
  refine T.i_Calls.ok sc_Calls_init (fun vs H Q E h => ?_) (fun f cdv A outer s H vs Q E hr h => ⟨_, (pss_cons (ps_fld (pv 0) (pv 1) rfl) (pss_one (ps_fld (pv 0) pe_int rfl))), ?_⟩)
  · obtain ⟨x, dx, a, rfl, _⟩ := h; rfl
  · obtain ⟨x, dx, a, rfl, hx, k⟩ := h
    refine ⟨_, rfl, _, rfl, x, c.C, dx, [], rfl, hx, T.clC, T.noC_numbers, (by show 0 < 1000; decide), ?_⟩
    refine ⟨_, rfl, x, c.C, dx, _, rfl, upd_same, T.clC, T.noC_at, (by show 1 < 1000; decide), ?_⟩
    rw [upd_upd]
    refine k _ ⟨dx, ?_⟩ But.upd
    rw [upd_same]
    exact congrArg (fun q => some (HO.ins c.C dx q)) (cF_new a 0)
theorem c_next_number (T : Txt K mg c) : CalT P w K mg base c.C 1 "next_number" ["self"] (spNextN K c) := by
  refine T.m_next_number.ok sc_next_number (fun vs H Q E h => ?_) (fun f cdv A outer s H vs Q E hr h => ⟨_, (pss_cons (ps_fld (pv 0) (pe_op op_add (pe_fld (pv 0) rfl) pe_int) rfl) (pss_one (ps_ret (pe_ix ix_list (pe_fld (pv 0) rfl) (pe_op op_sub (pe_fld (pv 0) rfl) pe_int) (fun _ _ => rfl))))), ?_⟩)
  · obtain ⟨r, a, ns, i, z, rfl, _⟩ := h; rfl
  · obtain ⟨r, a, ns, i, z, rfl, ⟨dx, hi⟩, hS, hz, k⟩ := h
    refine ⟨_, rfl, r, c.C, dx, _, _, rfl, hi, T.clC, T.noC_at, cF_at _ _, _, _, rfl, rfl, _, rfl, r, c.C, dx, _, rfl, hi, T.clC, T.noC_at, (by show 2 < 1000; decide), ?_⟩
    have e1 : (upd H r (.ins c.C dx (putF "at" (.int ((i : Int) + 1)) (cF a i)))) r = some (.ins c.C dx (cF a (i + 1))) := by
      rw [upd_same]; exact congrArg (fun q => some (HO.ins c.C dx q)) (cF_put_at a i (i + 1))
    have b1 : But r H (upd H r (.ins c.C dx (putF "at" (.int ((i : Int) + 1)) (cF a i)))) := But.upd
    have hS1 := sq_but hS hi b1
    refine ⟨_, rfl, r, c.C, dx, _, _, rfl, e1, T.clC, T.noC_numbers, cF_numbers _ _, _, rfl, r, c.C, dx, _, _, rfl, e1, T.clC, T.noC_at, cF_at _ _, _, _, rfl, rfl, a, _, _, _, rfl, rfl, hS1, at_of (j := i) (by show ((i + 1 : Nat) : Int) - 1 = _; omega) (by rw [List.getElem?_map, hz]; rfl), ?_⟩
    exact k _ ⟨dx, e1⟩ b1
theorem c_next_row (T : Txt K mg c) : CalT P w K mg base c.C 2 "next_row" ["self"] (spNextR K c) := by
  refine T.m_next_row.ok sc_next_row (fun vs H Q E h => ?_) (fun f cdv A outer s H vs Q E hr h => ⟨_, (pss_cons (ps_set (i := 1) sc_next_row.nd rfl (Or.inl rfl) (pc_meth0 (pv 0) T.clC (c_next_number T) (hr.mono (by decide)) pass0)) (pss_cons (ps_fld (pv 0) (pe_op op_add (pe_fld (pv 0) rfl) (pv 1)) rfl) (pss_one (ps_ret (pe_slice sl_list (pe_fld (pv 0) rfl) (po_some (pe_op op_sub (pe_fld (pv 0) rfl) (pv 1))) (po_some (pe_fld (pv 0) rfl))))))), ?_⟩)
  · obtain ⟨r, a, ns, i, n, rfl, _⟩ := h; rfl
  · obtain ⟨r, a, ns, i, n, rfl, hC, hS, hz, hl, k⟩ := h
    obtain ⟨dx0, hi0⟩ := hC
    refine ⟨_, rfl, r, dx0, _, rfl, hi0, cF_no_next_number _ _, r, a, ns, i, _, rfl, ⟨dx0, hi0⟩, hS, hz, fun H1 ⟨dx, hi⟩ b1 => ?_⟩
    have hS1 := sq_but hS hi0 b1
    refine ⟨_, rfl, r, c.C, dx, _, _, rfl, hi, T.clC, T.noC_at, cF_at _ _, _, rfl, _, _, rfl, rfl, _, rfl, r, c.C, dx, _, rfl, hi, T.clC, T.noC_at, (by show 2 < 1000; decide), ?_⟩
    have e2 : (upd H1 r (.ins c.C dx (putF "at" (.int (((i + 1 : Nat) : Int) + (n : Int))) (cF a (i + 1))))) r = some (.ins c.C dx (cF a (i + 1 + n))) := by
      rw [upd_same]; exact congrArg (fun q => some (HO.ins c.C dx q)) (cF_put_at a (i + 1) (i + 1 + n))
    have b2 : But r H1 (upd H1 r (.ins c.C dx (putF "at" (.int (((i + 1 : Nat) : Int) + (n : Int))) (cF a (i + 1))))) := But.upd
    have hS2 := sq_but hS1 hi b2
    refine ⟨_, rfl, r, c.C, dx, _, _, rfl, e2, T.clC, T.noC_numbers, cF_numbers _ _, _, rfl, r, c.C, dx, _, _, rfl, e2, T.clC, T.noC_at, cF_at _ _, _, rfl, _, _, rfl, rfl, _, rfl, _, rfl, r, c.C, dx, _, _, rfl, e2, T.clC, T.noC_at, cF_at _ _, _, rfl, a, _, rfl, hS2, fun p hp => ?_⟩
    have ei : ((i + 1 + n : Nat) : Int) - (n : Int) = ((i + 1 : Nat) : Int) := by omega
    rw [show cutV (ns.map V.int) (some (((i + 1 + n : Nat) : Int) - (n : Int))) (some ((i + 1 + n : Nat) : Int)) = ((ns.drop (i + 1)).take n).map V.int from by rw [ei]; exact cut_row ns (i + 1) n hl]
    have b3 := (b1.trans b2).trans (But.same (Same.new (o := .lst (((ns.drop (i + 1)).take n).map V.int)) hp))
    have rp : r ≠ p := ne_of_none e2 hp
    refine k _ p ⟨dx, by rw [upd_ne rp]; exact e2⟩ b3 ?_ upd_same
    cases e : H p with
    | none => rfl
    | some o =>
      have := (b1.trans b2) p o e rp.symm
      rw [hp] at this; cases this
theorem c_do_begin (T : Txt K mg c) : Cal P w K mg base (L2.CX P w) 6 "do_begin" ["content"] (spBegin K c) := by
  refine T.d_do_begin.okX sc_do_begin (fun vs H Q E h => ?_) (fun q f cdv A outer s H vs Q E hr h => ⟨_, (pss_cons (ps_expr (pc_call (c_need T) (hr.mono (by decide)) (by rfl) (passes_call (takes_of rfl rfl rfl rfl) (fun _ _ _ _ h => h)) (pa_cons (pe_and (pe_cmpR op_le (pe_callB call_len_seq (by rfl) T.n_len PySem.boot_len (pa_cons (pv 0) pa_nil)) (pc_int rfl T.g_MOST_BYTES) (nomark _)) (pe_one (pc_call (c_are_bytes T) (hr.mono (by decide)) (by rfl) pass0 (pa_cons (pv 0) pa_nil)))) (pa_cons (pe_un un_neg pe_int) pa_nil)))) (pss_one (ps_ret (pc_make (c_House_init T) (hr.mono (by decide)) (by rfl) pass0 (pa_cons (pv 0) pa_nil))))), ?_⟩)
  · obtain ⟨a, ns, rfl, _⟩ := h; rfl
  · obtain ⟨a, ns, rfl, hS, hl, h1, h2⟩ := h
    refine ⟨_, rfl, a, _, rfl, .inl hS, _, _, rfl, rfl, _, rfl, ?_⟩
    rw [List.length_map]
    by_cases c1 : ns.length ≤ 128
    · refine itT (decide_eq_true (show (ns.length : Int) ≤ 128 by omega)) ⟨_, rfl, a, ns, rfl, hS, hl, fun H1 s1 => ?_⟩
      refine ⟨_, rfl, _, -1, rfl, fun b => ?_, fun b => (h2 fun z => by rw [z.2] at b; cases b).same s1⟩
      have hb := bytes_toNat b
      have hS1 := s1.seq hS
      rw [ints_vN b] at hS1
      refine ⟨_, rfl, fun x dx nx nd ne => ?_⟩
      have s2 : Same H1 (upd (upd H1 dx (.own x)) x (.ins c.H dx [])) := fun b o e => by
        rw [upd_ne (ne_of_none e nx), upd_ne (ne_of_none e nd)]; exact e
      refine ⟨x, dx, a, ns.map Int.toNat, rfl, upd_same, s2.seq hS1, (by rw [List.length_map]; exact c1), hb, fun H' d' L' ed hH kp => ⟨rfl, ?_⟩⟩
      subst ed
      exact h1 ⟨c1, b⟩ H' L' d' hH fun b o e => kp b o (s2 _ _ (s1 _ _ e)) (ne_of_none (s1 _ _ e) nx)
    · refine itF (decide_eq_false (show ¬ (ns.length : Int) ≤ 128 by omega)) ⟨_, rfl, _, -1, rfl, fun b => absurd b (by decide), fun b => h2 fun z => c1 z.1⟩
theorem c_do_play (T : Txt K mg c) : Cal P w K mg base (L2.CX P w) 7 "do_play" ["house", "pads"] (spPlay c) := by
  refine T.d_do_play.okX sc_do_play (fun vs H Q E h => ?_) (fun q f cdv A outer s H vs Q E hr h => ⟨_, (pss_cons (ps_expr (pc_call (c_need T) (hr.mono (by decide)) (by rfl) (passes_call (takes_of rfl rfl rfl rfl) (fun _ _ _ _ h => h)) (pa_cons (pc_call (c_are_bytes T) (hr.mono (by decide)) (by rfl) pass0 (pa_cons (pv 1) pa_nil)) (pa_cons (pe_un un_neg pe_int) pa_nil)))) (pss_cons (ps_expr (pc_call (c_need_room T) (hr.mono (by decide)) (by rfl) (passes_call (takes_of rfl rfl rfl rfl) (fun _ _ _ _ h => h)) (pa_cons (pv 0) (pa_cons (pe_fld (pv 0) rfl) (pa_cons (pe_fld (pv 0) rfl) (pa_cons (pv 1) pa_nil)))))) (pss_one (ps_ret (pc_call (c_play_all T) (hr.mono (by decide)) (by rfl) pass0 (pa_cons (pv 0) (pa_cons (pv 1) pa_nil))))))), ?_⟩)
  · obtain ⟨L, d, s, a, ns, rfl, _⟩ := h; rfl
  · obtain ⟨L, d, s, a, ns, rfl, hH, g, ha, la, hl, kk⟩ := h
    unfold mPlay at kk
    refine ⟨_, rfl, a, ns, rfl, SqL.of ha, hl, fun H1 s1 => ⟨_, rfl, _, -1, rfl, fun b => ?_, fun b => ?_⟩⟩
    · rw [if_pos b] at kk
      have hH1 := hH.same s1
      obtain ⟨dx, hi⟩ := hH1.ins
      have ha1 := s1 _ _ ha
      rw [ints_vN b] at ha1
      refine ⟨_, rfl, _, rfl, d.h, c.H, dx, _, _, rfl, hi, T.clH, T.noH_here, hF_here _ _ _ _ _, _, rfl, d.h, c.H, dx, _, _, rfl, hi, T.clH, T.noH_played, hF_played _ _ _ _ _, _, rfl, L, d, s, s.here, s.pl, a, _, rfl, hH1, g.here, SqL.of ha1, fun r => ?_, fun r => ?_⟩
      · rw [vN_len, List.length_map] at r
        rw [if_pos r] at kk
        refine ⟨_, rfl, _, rfl, L, d, s, a, ns.map Int.toNat, rfl, hH1, g, ha1, la, bytes_toNat b, by rw [List.length_map]; exact r, fun H' L' d' p ed h' f' nw ep => ?_⟩
        exact kk H' L' d' p ed h' ((Fr.same s1).trans f') (New.back (Fr.same s1) nw) ep
      · rw [vN_len, List.length_map] at r
        rw [if_neg (by rw [r]; decide)] at kk
        exact Refuse.same kk s1
    · rw [if_neg (by rw [b]; decide)] at kk
      exact Refuse.same kk s1
theorem c_do_on (T : Txt K mg c) : Cal P w K mg base (L2.CX P w) 6 "do_on" ["house", "n"] (sp1 c mOn) := by
  refine T.d_do_on.okX sc_do_on (fun vs H Q E h => ?_) (fun q f cdv A outer s H vs Q E hr h => ⟨_, (pss_cons (ps_expr (pc_call (c_need T) (hr.mono (by decide)) (by rfl) (passes_call (takes_of rfl rfl rfl rfl) (fun _ _ _ _ h => h)) (pa_cons (pe_cmpR op_ge (pv 1) pe_int (nomark _)) (pa_cons (pe_un un_neg pe_int) pa_nil)))) (pss_cons (ps_expr (pc_call (c_play_on T) (hr.mono (by decide)) (by rfl) pass0 (pa_cons (pv 0) (pa_cons (pv 1) pa_nil)))) (pss_one (ps_ret (pc_call (c_where T) (hr.mono (by decide)) (by rfl) pass0 (pa_cons (pv 0) pa_nil)))))), ?_⟩)
  · obtain ⟨L, d, s, n, rfl, _⟩ := h; rfl
  · obtain ⟨L, d, s, n, rfl, hH, g, kk⟩ := h
    unfold mOn at kk
    refine ⟨_, rfl, _, _, rfl, rfl, _, rfl, _, -1, rfl, fun b => ?_, fun b => ?_⟩
    · have c1 : 0 ≤ n := of_decide_eq_true b
      rw [if_pos c1] at kk
      have en : n = ((n.toNat : Nat) : Int) := by omega
      refine ⟨_, rfl, _, rfl, L, d, s, n.toNat, by rw [← en]; rfl, hH, g, fun H' h' f' => ?_⟩
      exact ⟨_, rfl, L, d, _, rfl, h', fun p H2 s2 np ep => kk H2 L d p rfl (h'.same s2) (f'.trans (Fr.same s2)) (New.of f' np) ep⟩
    · have c1 : ¬ 0 ≤ n := of_decide_eq_false b
      rw [if_neg c1] at kk
      exact kk
theorem c_do_go (T : Txt K mg c) : Cal P w K mg base (L2.CX P w) 7 "do_go" ["house", "k", "t"] (sp2 c mGo) := by
  refine T.d_do_go.okX sc_do_go (fun vs H Q E h => ?_) (fun q f cdv A outer s H vs Q E hr h => ⟨_, (pss_cons (ps_set (i := 3) sc_do_go.nd rfl (Or.inl rfl) (pc_call (c_take_of T) (hr.mono (by decide)) (by rfl) (passes_call (takes_of rfl rfl rfl rfl) (fun _ _ _ _ h => h)) (pa_cons (pv 0) (pa_cons (pv 1) pa_nil)))) (pss_cons (ps_expr (pc_call (c_need T) (hr.mono (by decide)) (by rfl) (passes_call (takes_of rfl rfl rfl rfl) (fun _ _ _ _ h => h)) (pa_cons (pe_chain op_le op_le pe_int (pv 2) (pe_callB call_len_seq (by rfl) T.n_len PySem.boot_len (pa_cons (pe_fld (pv 3) rfl) pa_nil))) (pa_cons (pe_un un_neg pe_int) pa_nil)))) (pss_cons (ps_expr (pc_call (c_go_to T) (hr.mono (by decide)) (by rfl) pass0 (pa_cons (pv 0) (pa_cons (pv 1) (pa_cons (pv 2) pa_nil))))) (pss_one (ps_ret (pc_call (c_where T) (hr.mono (by decide)) (by rfl) pass0 (pa_cons (pv 0) pa_nil))))))), ?_⟩)
  · obtain ⟨L, d, s, k, t, rfl, _⟩ := h; rfl
  · obtain ⟨L, d, s, k, t, rfl, hH, g, kk⟩ := h
    unfold mGo at kk
    refine ⟨_, rfl, _, rfl, L, d, s, k, rfl, hH, fun b => ?_, fun b => by rw [if_neg (by rw [b]; decide)] at kk; exact kk⟩
    rw [if_pos b] at kk
    obtain ⟨k0, hk⟩ := isTk_lt b
    obtain ⟨tx, ti⟩ := (hH.tk _ hk).ins
    have hp := (hH.tk _ hk).pads
    have ek : k = ((k.toNat : Nat) : Int) := by omega
    have go : ∀ b : Bool, b = decide (0 ≤ t ∧ t ≤ ((s.tk k.toNat).pads.length : Int)) → (b = true → Ansr c (done (goTo s k.toNat t.toNat)) L d H Q E) ∧ (b = false → Refuse c H E (-3)) := fun b eb => by
      rw [eb]
      refine ⟨fun z => ?_, fun z => ?_⟩
      · rw [if_pos (of_decide_eq_true z)] at kk; exact kk
      · rw [if_neg (of_decide_eq_false z)] at kk; exact kk
    refine ⟨_, rfl, _, _, rfl, rfl, _, rfl, ?_⟩
    by_cases c1 : (0 : Int) ≤ t
    · refine itT (decide_eq_true c1) ⟨_, rfl, d.t k.toNat, c.T, tx, _, _, rfl, ti, T.clT, T.noT_pads, tF_pads _ _ _ _, d.p k.toNat, _, rfl, .inl (SqL.of hp), _, _, rfl, rfl, _, rfl, _, -3, rfl, fun b => ?_, fun b => ?_⟩
      · have c2 : t ≤ ((s.tk k.toNat).pads.length : Int) := by have := of_decide_eq_true b; rw [vN_len] at this; exact this
        have kk' := (go true (decide_eq_true ⟨c1, c2⟩).symm).1 rfl
        have et : t = ((t.toNat : Nat) : Int) := by omega
        refine ⟨_, rfl, _, rfl, _, rfl, L, d, s, k.toNat, t.toNat, by rw [← ek, ← et]; rfl, hH, g.fine, hk, fun H' L' d' ed h' f' => ?_⟩
        exact ⟨_, rfl, L', d', _, by rw [ed]; rfl, h', fun p H2 s2 np ep => kk' H2 L' d' p ed (h'.same s2) (f'.trans (Fr.same s2)) (New.of f' np) ep⟩
      · have c2 : ¬ t ≤ ((s.tk k.toNat).pads.length : Int) := by have := of_decide_eq_false b; rw [vN_len] at this; exact this
        exact (go false (decide_eq_false fun z => c2 z.2).symm).2 rfl
    · refine itF (decide_eq_false c1) ⟨_, rfl, _, -3, rfl, fun b => absurd b (by decide), fun b => (go false (decide_eq_false fun z => c1 z.1).symm).2 rfl⟩
end
end Tk
-- the part TkCalls3
set_option maxRecDepth 100000
set_option maxHeartbeats 4000000
namespace Tk
open PySem PySem.Spec PyProof.Rows L2
open CsBase (Mach byteAt put inA inX opAt rests upTo frame frames loaded told mark)

/-! ### a chain of three comparisons -/
def tChain3 (r r' r'' : R2) (ta tb tc td : TE) : TE := fun σ H Q => ta σ H fun x H1 => tb σ H1 fun y H2 => r x y H2 fun z H3 => ∃ k, z = .bl k ∧
  (if k = true then tc σ H3 fun w H4 => r' y w H4 fun z' H5 => ∃ k', z' = .bl k' ∧ (if k' = true then td σ H5 fun w' H6 => r'' w w' H6 Q else Q (.bl false) H5) else Q (.bl false) H3)
theorem pe_chain3 {X : Cx} {a b c d : Expr} {ta tb tc td : TE} {pos : Pos} {op op' op'' : CmpOp} {r r' r'' : R2} (ho : OpR X (compareOp op) r) (ho' : OpR X (compareOp op') r') (ho'' : OpR X (compareOp op'') r'') (ha : PE X a ta) (hb : PE X b tb) (hc : PE X c tc) (hd : PE X d td)
    (hm : lastMarks [op, op', op''] [b, c, d] = false := by with_unfolding_all rfl) : PE X (.Compare a [op, op', op''] [b, c, d] pos) (tChain3 r r' r'' ta tb tc td) := by
  constructor
  intro pins s σ H Q I h
  refine Compare_chain (thn (ha.run pins s σ H _ I h) fun va sa ⟨xa, Ha, Ia, ra, qa⟩ => chain_link (thn (hb.run pins sa σ Ha _ Ia qa) fun vb sb ⟨xb, Hb, Ib, rb, qb⟩ => thn (ho pins sb σ Hb xa xb va vb _ Ib ra rb qb) fun v1 s1 ⟨x1, H1, I1, r1, k1, e1, q1⟩ => ?_)) hm
  subst e1
  cases r1
  refine wpAny_truthy_bool ?_
  cases k1 with
  | false => exact ite_ff ⟨V.bl false, H1, I1, rfl, q1⟩
  | true =>
    refine ite_tt (chain_link (thn (hc.run pins s1 σ H1 _ I1 q1) fun vc sc ⟨xc, Hc, Ic, rc, qc⟩ => thn (ho' pins sc σ Hc xb xc vb vc _ Ic rb rc qc) fun v2 s2 ⟨x2, H2, I2, r2, k2, e2, q2⟩ => ?_))
    subst e2
    cases r2
    refine wpAny_truthy_bool ?_
    cases k2 with
    | false => exact ite_ff ⟨V.bl false, H2, I2, rfl, q2⟩
    | true => exact ite_tt (chain_last (thn (hd.run pins s2 σ H2 _ I2 q2) fun vd sd ⟨xd, Hd, Id, rd, qd⟩ => ho'' pins sd σ Hd xc xd vc vd Q Id rc rd qd))

/-- a new object has no mark -/
theorem unmark {c : Cs} {H H1 : Hp} {L : Addr → Option Nat} {d : Ad} {s : Hs} {p : Addr} (h : HAt c H L d s) (n : H p = none) (h1 : HAt c H1 L d s) : ∃ L2, HAt c H1 L2 d s ∧ L2 p = none ∧ Fr L H1 L2 H1 := by
  have ne : ∀ {a : Addr} {o : HO}, H a = some o → a ≠ p := fun e => ne_of_none e n
  have keep : ∀ {a : Addr} {o : HO} {j : Option Nat}, H a = some o → L a = j → (fun a => if a = p then none else L a) a = j := fun {a o j} e l => by
    show (if a = p then none else L a) = j
    rw [if_neg (ne e)]; exact l
  obtain ⟨⟨dx, hi⟩, h2, h3, h4, ⟨⟨mx, mi⟩, ml, _⟩, h6⟩ := h
  refine ⟨fun a => if a = p then none else L a, ⟨h1.ins, h1.lo, h1.tks, h1.tk, h1.mach, ⟨keep hi h6.h, keep h2 h6.l, keep h3 h6.T, keep mi h6.m, keep ml h6.mc, fun i hi => ?_, fun i hi => keep (h4 i hi).pads (h6.p i hi), fun i hi => keep (h4 i hi).marks (h6.q i hi)⟩⟩, ?_, fun a o e l => ⟨e, ?_⟩⟩
  · obtain ⟨x, e⟩ := (h4 i hi).ins
    exact keep e (h6.t i hi)
  · show (if p = p then none else L p) = none
    rw [if_pos rfl]
  · show (if a = p then none else L a) = none
    split
    · rfl
    · exact l
theorem flat_next {s : Hs} {i : Nat} (h : i < s.ts.length) : (s.ts.take (i + 1)).flatMap toldTake = (s.ts.take i).flatMap toldTake ++ toldTake (s.tk i) := by
  have e : s.ts[i]? = some (s.tk i) := by
    show s.ts[i]? = some (s.ts.getD i tnone)
    rw [List.getD_eq_getElem?_getD, List.getElem?_eq_getElem h]; rfl
  rw [List.take_add_one, e, List.flatMap_append]
  show _ = _ ++ toldTake (s.tk i)
  rw [Option.toList_some, List.flatMap_cons, List.flatMap_nil, List.append_nil]
theorem flat_len (l : List Tak) : (l.flatMap toldTake).length = 3 * l.length := by
  induction l with
  | nil => rfl
  | cons x l ih => rw [List.flatMap_cons, List.length_append, ih, List.length_cons]; show 3 + _ = _; omega
def orM1_cases (o : Option Nat) : (o = none ∧ orM1 o = -1) ∨ ∃ n, o = some n ∧ orM1 o = (n : Int) := by
  cases o with
  | none => exact .inl ⟨rfl, rfl⟩
  | some n => exact .inr ⟨n, rfl, rfl⟩
section
variable {P : Program} {w : World} {K : PySem.W.Frag} {mg : Str → Option Value} {base : Heap} {c : Cs}
theorem c_do_takes (T : Txt K mg c) : Cal P w K mg base CX0 1 "do_takes" ["house"] (sp0 c mTakes) := by
  refine T.d_do_takes.ok sc_do_takes (fun vs H Q E h => ?_) (fun q f cdv A outer s H vs Q E hr h => ⟨_, (pss_cons (ps_set (i := 1) sc_do_takes.nd rfl (Or.inl rfl) (pe_lst (pa_cons (pe_callB call_len_seq (by rfl) T.n_len PySem.boot_len (pa_cons (pe_fld (pv 0) rfl) pa_nil)) pa_nil))) (pss_cons (ps_for PassesOwn.never rfl (pi_list (pe_fld (pv 0) rfl)) (pg_name (i := 2) sc_do_takes.nd rfl (Or.inl rfl)) (pss_one (ps_expr (pe_bm PySem.F.plainAttrs_list PySem.F.slot_list_extend PySem.F.type_list_extend mt_extend (pv 1) (pa_cons (pe_lst (pa_cons (pe_op op_add (pe_fld (pv 2) rfl) pe_int) (pa_cons (pe_fld (pv 2) rfl) (pa_cons (pe_callB call_len_seq (by rfl) T.n_len PySem.boot_len (pa_cons (pe_fld (pv 2) rfl) pa_nil)) pa_nil)))) pa_nil))))) (pss_one (ps_ret (pv 1))))), ?_⟩)
  · obtain ⟨L, d, s, rfl, _⟩ := h; rfl
  · obtain ⟨L, d, s, rfl, hH, g, kk⟩ := h
    obtain ⟨dx, hi⟩ := hH.ins
    refine ⟨_, rfl, d.h, c.H, dx, _, _, rfl, hi, T.clH, T.noH_takes, hF_takes _ _ _ _ _, d.T, _, rfl, .inl (SqL.of hH.tks), (by show 1 ≤ sizeLine; decide), fun p hp => ?_⟩
    rw [refs_len]
    have s1 : Same H (upd H p (.lst [V.int (s.ts.length : Int)])) := Same.new hp
    refine ⟨_, rfl, d.h, c.H, dx, _, _, rfl, s1 _ _ hi, T.clH, T.noH_takes, hF_takes _ _ _ _ _, d.T, rfl, ⟨_, SqL.of (s1 _ _ hH.tks)⟩, for_list (K := K) (a := d.T) (xs := refs d s.ts.length) (fun i σ H' => ∃ v, σ = [some (.ref d.h), some (.ref p), v] ∧ Same H H' ∧ H' p = some (.lst (((s.ts.length : Int) :: (s.ts.take i).flatMap toldTake).map V.int)))
      ⟨none, rfl, s1, upd_same⟩ (fun i σ H' _ ⟨v, _, s', _⟩ => SqL.of (s' _ _ hH.tks)) ?_ ?_⟩
    · rintro i y σ H' hi' ⟨v, rfl, s', ep⟩
      have il : i < s.ts.length := by have := (List.getElem?_eq_some_iff.mp hi').1; rw [refs_len] at this; exact this
      have ey : y = V.ref (d.t i) := by rw [refs_get il] at hi'; exact (Option.some.inj hi').symm
      subst ey
      obtain ⟨tx, ti⟩ := (hH.tk i il).ins
      have pp := (hH.tk i il).pads
      have ti' := s' _ _ ti
      refine ⟨_, rfl, .inl ⟨rfl, _, SqL.of ep⟩, _, rfl, d.t i, c.T, tx, _, _, rfl, ti', T.clT, T.noT_parent, tF_parent _ _ _ _, _, _, rfl, rfl, _, rfl, d.t i, c.T, tx, _, _, rfl, ti', T.clT, T.noT_ahead, tF_ahead _ _ _ _, _, rfl, d.t i, c.T, tx, _, _, rfl, ti', T.clT, T.noT_pads, tF_pads _ _ _ _, d.p i, _, rfl, .inl (SqL.of (s' _ _ pp)), (by show 3 ≤ sizeLine; decide), fun b hb => ?_⟩
      rw [vN_len]
      have pb : p ≠ b := ne_of_none ep hb
      refine ⟨p, b, _, _, rfl, rfl, by rw [upd_ne pb]; exact ep, upd_same, ?_, ?_⟩
      · rw [List.length_map, List.length_cons, flat_len, List.length_take]
        refine Nat.le_trans (show _ ≤ 1000 from ?_) (by decide)
        have := g.most
        show 3 * min i s.ts.length + 1 + 3 ≤ 1000
        omega
      · refine ⟨some (.ref (d.t i)), rfl, fun x o e => ?_, ?_⟩
        · rw [upd_ne (ne_of_none e hp), upd_ne (ne_of_none (s' _ _ e) hb)]; exact s' _ _ e
        · rw [upd_same, flat_next il, ← List.cons_append, List.map_append]; rfl
    · rintro σ H' ⟨v, rfl, s', ep⟩
      rw [refs_len, List.take_length] at ep
      exact ⟨_, rfl, kk H' L d p rfl (hH.same s') (Fr.same s') (New.no hp) ep⟩
theorem c_do_pads (T : Txt K mg c) : Cal P w K mg base (L2.CX P w) 5 "do_pads" ["house", "k"] (sp1 c mPads) := by
  refine T.d_do_pads.okX sc_do_pads (fun vs H Q E h => ?_) (fun q f cdv A outer s H vs Q E hr h => ⟨_, (pss_cons (ps_set (i := 2) sc_do_pads.nd rfl (Or.inl rfl) (pc_call (c_take_of T) (hr.mono (by decide)) (by rfl) (passes_call (takes_of rfl rfl rfl rfl) (fun _ _ _ _ h => h)) (pa_cons (pv 0) (pa_cons (pv 1) pa_nil)))) (pss_one (ps_ret (pe_op op_cat (pe_lst (pa_cons (pe_callB call_len_seq (by rfl) T.n_len PySem.boot_len (pa_cons (pe_fld (pv 2) rfl) pa_nil)) pa_nil)) (pe_fld (pv 2) rfl))))), ?_⟩)
  · obtain ⟨L, d, s, k, rfl, _⟩ := h; rfl
  · obtain ⟨L, d, s, k, rfl, hH, g, kk⟩ := h
    unfold mPads at kk
    refine ⟨_, rfl, _, rfl, L, d, s, k, rfl, hH, fun b => ?_, fun b => by rw [if_neg (by rw [b]; decide)] at kk; exact kk⟩
    rw [if_pos b] at kk
    obtain ⟨k0, hk⟩ := isTk_lt b
    obtain ⟨tx, ti⟩ := (hH.tk _ hk).ins
    have hp := (hH.tk _ hk).pads
    refine ⟨_, rfl, d.t k.toNat, c.T, tx, _, _, rfl, ti, T.clT, T.noT_pads, tF_pads _ _ _ _, d.p k.toNat, _, rfl, .inl (SqL.of hp), (by show 1 ≤ sizeLine; decide), fun p1 n1 => ?_⟩
    rw [vN_len]
    have s1 : Same H (upd H p1 (.lst [V.int ((s.tk k.toNat).pads.length : Int)])) := Same.new n1
    refine ⟨_, rfl, d.t k.toNat, c.T, tx, _, _, rfl, s1 _ _ ti, T.clT, T.noT_pads, tF_pads _ _ _ _, p1, d.p k.toNat, _, _, rfl, rfl, upd_same, s1 _ _ hp, ?_, fun p2 n2 => ?_⟩
    · rw [vN_len]
      have := (g.tk hk).len
      exact Nat.le_trans (show 1 + (s.tk k.toNat).pads.length ≤ 1000 by omega) (by decide)
    · have s2 := s1.trans (Same.new (o := .lst ([V.int ((s.tk k.toNat).pads.length : Int)] ++ vN (s.tk k.toNat).pads)) n2)
      refine kk _ L d p2 rfl (hH.same s2) (Fr.same s2) (New.of (Fr.same s1) n2) ?_
      rw [upd_same, List.map_cons, vN_intsN]; rfl
theorem c_do_put (T : Txt K mg c) : Cal P w K mg base (L2.CX P w) 7 "do_put" ["house", "k", "a", "b"] (sp3 c mPut) := by
  refine T.d_do_put.okX sc_do_put (fun vs H Q E h => ?_) (fun q f cdv A outer s H vs Q E hr h => ⟨_, (pss_cons (ps_set (i := 4) sc_do_put.nd rfl (Or.inl rfl) (pc_call (c_take_of T) (hr.mono (by decide)) (by rfl) (passes_call (takes_of rfl rfl rfl rfl) (fun _ _ _ _ h => h)) (pa_cons (pv 0) (pa_cons (pv 1) pa_nil)))) (pss_cons (ps_expr (pc_call (c_need T) (hr.mono (by decide)) (by rfl) (passes_call (takes_of rfl rfl rfl rfl) (fun _ _ _ _ h => h)) (pa_cons (pe_chain3 op_le op_le op_le pe_int (pv 2) (pv 3) (pe_callB call_len_seq (by rfl) T.n_len PySem.boot_len (pa_cons (pe_fld (pv 4) rfl) pa_nil))) (pa_cons (pe_un un_neg pe_int) pa_nil)))) (pss_cons (ps_set (i := 5) sc_do_put.nd rfl (Or.inl rfl) (pe_slice sl_list (pe_fld (pv 4) rfl) (po_some (pv 2)) (po_some (pv 3)))) (pss_cons (ps_expr (pc_call (c_need_room T) (hr.mono (by decide)) (by rfl) (passes_call (takes_of rfl rfl rfl rfl) (fun _ _ _ _ h => h)) (pa_cons (pv 0) (pa_cons (pe_fld (pv 0) rfl) (pa_cons (pe_fld (pv 0) rfl) (pa_cons (pv 5) pa_nil)))))) (pss_one (ps_ret (pc_call (c_play_all T) (hr.mono (by decide)) (by rfl) pass0 (pa_cons (pv 0) (pa_cons (pv 5) pa_nil))))))))), ?_⟩)
  · obtain ⟨L, d, s, k, a, b, rfl, _⟩ := h; rfl
  · obtain ⟨L, d, s, k, a, b, rfl, hH, g, kk⟩ := h
    unfold mPut at kk
    refine ⟨_, rfl, _, rfl, L, d, s, k, rfl, hH, fun bb => ?_, fun bb => by rw [if_neg (by rw [bb]; decide)] at kk; exact kk⟩
    rw [if_pos bb] at kk
    obtain ⟨k0, hk⟩ := isTk_lt bb
    obtain ⟨tx, ti⟩ := (hH.tk _ hk).ins
    have hp := (hH.tk _ hk).pads
    have no : ¬ (0 ≤ a ∧ a ≤ b ∧ b ≤ ((s.tk k.toNat).pads.length : Int)) → Refuse c H E (-3) := fun z => by
      rw [if_neg z] at kk; exact kk
    refine ⟨_, rfl, _, _, rfl, rfl, _, rfl, ?_⟩
    by_cases c1 : (0 : Int) ≤ a
    · refine itT (decide_eq_true c1) ⟨_, rfl, _, _, rfl, rfl, _, rfl, ?_⟩
      by_cases c2 : a ≤ b
      · refine itT (decide_eq_true c2) ⟨_, rfl, d.t k.toNat, c.T, tx, _, _, rfl, ti, T.clT, T.noT_pads, tF_pads _ _ _ _, d.p k.toNat, _, rfl, .inl (SqL.of hp), _, _, rfl, rfl, _, rfl, _, -3, rfl, fun b3 => ?_, fun b3 => no fun z => ?_⟩
        · have c3 : b ≤ ((s.tk k.toNat).pads.length : Int) := by have := of_decide_eq_true b3; rw [vN_len] at this; exact this
          rw [if_pos ⟨c1, c2, c3⟩] at kk
          have hi := hH.ins
          obtain ⟨dx, hi⟩ := hi
          have ea : a = ((a.toNat : Nat) : Int) := by omega
          have eb : b = ((a.toNat + (b.toNat - a.toNat) : Nat) : Int) := by omega
          have ec : cutV (vN (s.tk k.toNat).pads) (some a) (some b) = vN (((s.tk k.toNat).pads.take b.toNat).drop a.toNat) := by
            have h1 := cut_mid (s.tk k.toNat).pads a.toNat (b.toNat - a.toNat) (by omega)
            rw [← eb, ← ea] at h1
            rw [h1, List.drop_take]
          refine ⟨_, rfl, d.t k.toNat, c.T, tx, _, _, rfl, ti, T.clT, T.noT_pads, tF_pads _ _ _ _, _, rfl, _, rfl, _, rfl, _, rfl, d.p k.toNat, _, rfl, SqL.of hp, fun p2 n2 => ?_⟩
          rw [ec]
          obtain ⟨l, hl⟩ : ∃ l, l = ((s.tk k.toNat).pads.take b.toNat).drop a.toNat := ⟨_, rfl⟩
          have lb : ∀ v ∈ l, v < 256 := fun v hv => (g.tk hk).bytes v (List.mem_of_mem_take (List.mem_of_mem_drop (by rw [← hl]; exact hv)))
          rw [← hl] at kk ⊢
          have s2 : Same H (upd H p2 (.lst (vN l))) := Same.new n2
          -- the pads' list is new: no mark for it
          have hH2 := hH.same s2
          have kk2 := Ansr.same (c := c) kk s2
          have ep : (upd H p2 (.lst (vN l))) p2 = some (.lst (vN l)) := upd_same
          obtain ⟨L2, hH3, lp, fr⟩ : ∃ L2, HAt c (upd H p2 (.lst (vN l))) L2 d s ∧ L2 p2 = none ∧ Fr L (upd H p2 (.lst (vN l))) L2 (upd H p2 (.lst (vN l))) := unmark hH n2 hH2
          refine ⟨_, rfl, _, rfl, d.h, c.H, dx, _, _, rfl, s2 _ _ hi, T.clH, T.noH_here, hF_here _ _ _ _ _, _, rfl, d.h, c.H, dx, _, _, rfl, s2 _ _ hi, T.clH, T.noH_played, hF_played _ _ _ _ _, _, rfl, L, d, s, s.here, s.pl, p2, _, rfl, hH2, g.here, SqL.of ep, fun r => ?_, fun r => ?_⟩
          · rw [vN_len] at r
            rw [if_pos r] at kk2
            refine ⟨_, rfl, _, rfl, L2, d, s, p2, l, rfl, hH3, g, ep, lp, lb, r, fun H' L' d' p ed h' f' nw e' => ?_⟩
            exact kk2 H' L' d' p ed h' (fr.trans f') (New.back fr nw) e'
          · rw [vN_len] at r
            rw [if_neg (by rw [r]; decide)] at kk2
            exact kk2
        · have c3 : ¬ b ≤ ((s.tk k.toNat).pads.length : Int) := by have := of_decide_eq_false b3; rw [vN_len] at this; exact this
          exact c3 z.2.2
      · exact itF (decide_eq_false c2) ⟨_, rfl, _, -3, rfl, fun b3 => absurd b3 (by decide), fun _ => no fun z => c2 z.2.1⟩
    · exact itF (decide_eq_false c1) ⟨_, rfl, _, -3, rfl, fun b3 => absurd b3 (by decide), fun _ => no fun z => c1 z.1⟩
end
end Tk
-- the part TkCalls4
set_option maxRecDepth 100000
set_option maxHeartbeats 4000000
namespace Tk
open PySem PySem.Spec PyProof.Rows L2
open CsBase (Mach byteAt put inA inX opAt rests upTo frame frames loaded told mark)

theorem cut_from (l : List Nat) (n : Nat) : cutV (vN l) (some (n : Int)) none = vN (l.drop n) := by
  unfold cutV
  rw [HT.sIx_nat, HT.sIx_none, vN_len, vN_drop]
  by_cases h : n ≤ l.length
  · rw [Nat.min_eq_left h, List.take_of_length_le (by rw [vN_len, List.length_drop]; omega)]
  · rw [Nat.min_eq_right (by omega), Nat.sub_self, List.drop_eq_nil_of_le (by omega : l.length ≤ l.length), List.drop_eq_nil_of_le (by omega : l.length ≤ n)]; rfl
theorem Good.goTo {s : Hs} (g : Good s) {k t : Nat} (hk : k < s.ts.length) (ht : t ≤ (s.tk k).pads.length) : Good (goTo s k t) := ⟨g.lo, g.bytes, g.most, hk, ht, g.tks, Wf.frames (Wf.loaded _)⟩
section
variable {P : Program} {w : World} {K : PySem.W.Frag} {mg : Str → Option Value} {base : Heap} {c : Cs}
theorem c_need_frame (T : Txt K mg c) : Cal P w K mg base (L2.CX P w) 4 "need_frame" ["house", "t"] (spFrameOk c) := by
  refine T.d_need_frame.okX sc_need_frame (fun vs H Q E h => ?_) (fun q f cdv A outer s H vs Q E hr h => ⟨_, (pss_one (ps_expr (pc_call (c_need T) (hr.mono (by decide)) (by rfl) (passes_call (takes_of rfl rfl rfl rfl) (fun _ _ _ _ h => h)) (pa_cons (pe_chain op_le op_lt pe_int (pv 1) (pe_callB call_len_seq (by rfl) T.n_len PySem.boot_len (pa_cons (pe_fld (pe_ix ix_list (pe_fld (pv 0) rfl) (pe_fld (pv 0) rfl) (fun _ _ => rfl)) rfl) pa_nil))) (pa_cons (pe_un un_neg pe_int) pa_nil))))), ?_⟩)
  · obtain ⟨L, d, s, t, rfl, _⟩ := h; rfl
  · obtain ⟨L, d, s, t, rfl, hH, g, h1, h2⟩ := h
    obtain ⟨dx, hi⟩ := hH.ins
    obtain ⟨tx, ti⟩ := (hH.tk s.here g.here).ins
    have hp := (hH.tk s.here g.here).pads
    have no : ¬ (0 ≤ t ∧ t < (s.cur.pads.length : Int)) → Refuse c H E (-3) := fun z => h2 (bool_not fun e => z (isFr_cases.mp e))
    refine ⟨_, rfl, _, _, rfl, rfl, _, rfl, ?_⟩
    by_cases c1 : (0 : Int) ≤ t
    · refine itT (decide_eq_true c1) ⟨_, rfl, d.h, c.H, dx, _, _, rfl, hi, T.clH, T.noH_takes, hF_takes _ _ _ _ _, _, rfl, d.h, c.H, dx, _, _, rfl, hi, T.clH, T.noH_here, hF_here _ _ _ _ _, d.T, _, _, _, rfl, rfl, SqL.of hH.tks, atI_nat (refs_get g.here), d.t s.here, c.T, tx, _, _, rfl, ti, T.clT, T.noT_pads, tF_pads _ _ _ _, d.p s.here, _, rfl, .inl (SqL.of hp), _, _, rfl, rfl, _, rfl, _, -3, rfl, fun b => ?_, fun b => no fun z => ?_⟩
      · have c2 : t < ((s.tk s.here).pads.length : Int) := by have := of_decide_eq_true b; rw [vN_len] at this; exact this
        exact h1 (isFr_cases.mpr ⟨c1, c2⟩)
      · have c2 : ¬ t < ((s.tk s.here).pads.length : Int) := by have := of_decide_eq_false b; rw [vN_len] at this; exact this
        exact c2 z.2
    · exact itF (decide_eq_false c1) ⟨_, rfl, _, -3, rfl, fun b => absurd b (by decide), fun _ => no fun z => c1 z.1⟩
theorem c_do_cut (T : Txt K mg c) : Cal P w K mg base (L2.CX P w) 7 "do_cut" ["house", "t"] (sp1 c mCut) := by
  refine T.d_do_cut.okX sc_do_cut (fun vs H Q E h => ?_) (fun q f cdv A outer s H vs Q E hr h => ⟨_, (pss_cons (ps_expr (pc_call (c_need_frame T) (hr.mono (by decide)) (by rfl) (passes_call (takes_of rfl rfl rfl rfl) (fun _ _ _ _ h => h)) (pa_cons (pv 0) (pa_cons (pv 1) pa_nil)))) (pss_cons (ps_set (i := 2) sc_do_cut.nd rfl (Or.inl rfl) (pe_slice sl_list (pe_fld (pe_ix ix_list (pe_fld (pv 0) rfl) (pe_fld (pv 0) rfl) (fun _ _ => rfl)) rfl) (po_some (pe_op op_add (pv 1) pe_int)) po_none)) (pss_cons (ps_expr (pc_call (c_need_room T) (hr.mono (by decide)) (by rfl) (passes_call (takes_of rfl rfl rfl rfl) (fun _ _ _ _ h => h)) (pa_cons (pv 0) (pa_cons (pe_fld (pv 0) rfl) (pa_cons (pv 1) (pa_cons (pv 2) pa_nil)))))) (pss_cons (ps_expr (pc_call (c_go_to T) (hr.mono (by decide)) (by rfl) pass0 (pa_cons (pv 0) (pa_cons (pe_fld (pv 0) rfl) (pa_cons (pv 1) pa_nil))))) (pss_one (ps_ret (pc_call (c_play_all T) (hr.mono (by decide)) (by rfl) pass0 (pa_cons (pv 0) (pa_cons (pv 2) pa_nil))))))))), ?_⟩)
  · obtain ⟨L, d, s, t, rfl, _⟩ := h; rfl
  · obtain ⟨L, d, s, t, rfl, hH, g, kk⟩ := h
    unfold mCut at kk
    obtain ⟨dx, hi⟩ := hH.ins
    obtain ⟨tx, ti⟩ := (hH.tk s.here g.here).ins
    have hp := (hH.tk s.here g.here).pads
    refine ⟨_, rfl, _, rfl, L, d, s, t, rfl, hH, g, fun b => ?_, fun b => by rw [if_neg (by rw [b]; decide)] at kk; exact kk⟩
    rw [if_pos b] at kk
    obtain ⟨t0, lt⟩ := isFr_lt b
    have et : t = ((t.toNat : Nat) : Int) := by omega
    obtain ⟨n, hn⟩ : ∃ n, n = t.toNat := ⟨_, rfl⟩
    rw [← hn] at et kk lt
    subst et
    refine ⟨_, rfl, d.h, c.H, dx, _, _, rfl, hi, T.clH, T.noH_takes, hF_takes _ _ _ _ _, _, rfl, d.h, c.H, dx, _, _, rfl, hi, T.clH, T.noH_here, hF_here _ _ _ _ _, d.T, _, _, _, rfl, rfl, SqL.of hH.tks, atI_nat (refs_get g.here), d.t s.here, c.T, tx, _, _, rfl, ti, T.clT, T.noT_pads, tF_pads _ _ _ _, _, rfl, _, _, rfl, rfl, _, rfl, d.p s.here, _, rfl, SqL.of hp, fun p2 n2 => ?_⟩
    rw [show cutV (vN (s.tk s.here).pads) (some ((n : Int) + 1)) none = vN (s.cur.pads.drop (n + 1)) from cut_from s.cur.pads (n + 1)]
    obtain ⟨l, hl⟩ : ∃ l, l = s.cur.pads.drop (n + 1) := ⟨_, rfl⟩
    have lb : ∀ v ∈ l, v < 256 := fun v hv => g.cur.bytes v (List.mem_of_mem_drop (by rw [← hl]; exact hv))
    rw [← hl] at kk ⊢
    have s2 : Same H (upd H p2 (.lst (vN l))) := Same.new n2
    have hH2 := hH.same s2
    have kk2 := Ansr.same (c := c) kk s2
    have ep : (upd H p2 (.lst (vN l))) p2 = some (.lst (vN l)) := upd_same
    obtain ⟨L2, hH3, lp, fr⟩ := unmark hH n2 hH2
    refine ⟨_, rfl, _, rfl, d.h, c.H, dx, _, _, rfl, s2 _ _ hi, T.clH, T.noH_here, hF_here _ _ _ _ _, _, rfl, _, rfl, L, d, s, s.here, n, p2, _, rfl, hH2, g.here, SqL.of ep, fun r => ?_, fun r => ?_⟩
    · rw [vN_len] at r
      rw [if_pos r] at kk2
      have gg := g.goTo (k := s.here) (t := n) g.here (Nat.le_of_lt lt)
      refine ⟨_, rfl, _, rfl, d.h, c.H, dx, _, _, rfl, s2 _ _ hi, T.clH, T.noH_here, hF_here _ _ _ _ _, _, rfl, L2, d, s, s.here, n, rfl, hH3, g.fine, g.here, fun H4 L4 d4 e4 h4 f4 => ?_⟩
      obtain ⟨ep4, lp4⟩ := f4 _ _ ep lp
      refine ⟨_, rfl, _, rfl, L4, d4, _, p2, l, by rw [e4]; rfl, h4, gg, ep4, lp4, lb, r, fun H' L' d' p ed h' f' nw e' => ?_⟩
      exact kk2 H' L' d' p (ed.trans e4) h' ((fr.trans f4).trans f') (New.back (fr.trans f4) nw) e'
    · rw [vN_len] at r
      rw [if_neg (by rw [r]; decide)] at kk2
      exact kk2
theorem c_do_parts (T : Txt K mg c) : Cal P w K mg base (L2.CX P w) 6 "do_parts" ["house", "k", "other"] (sp2 c mParts) := by
  refine T.d_do_parts.okX sc_do_parts (fun vs H Q E h => ?_) (fun q f cdv A outer s H vs Q E hr h => ⟨_, (pss_cons (ps_set (i := 3) sc_do_parts.nd rfl (Or.inl rfl) (pc_call (c_take_of T) (hr.mono (by decide)) (by rfl) (passes_call (takes_of rfl rfl rfl rfl) (fun _ _ _ _ h => h)) (pa_cons (pv 0) (pa_cons (pv 1) pa_nil)))) (pss_cons (ps_set (i := 4) sc_do_parts.nd rfl (Or.inl rfl) (pc_call (c_take_of T) (hr.mono (by decide)) (by rfl) (passes_call (takes_of rfl rfl rfl rfl) (fun _ _ _ _ h => h)) (pa_cons (pv 0) (pa_cons (pv 2) pa_nil)))) (pss_cons (ps_set (i := 5) sc_do_parts.nd rfl (Or.inl rfl) (pc_call (c_first_unlike T) (hr.mono (by decide)) (by rfl) pass0 (pa_cons (pv 0) (pa_cons (pv 3) (pa_cons (pv 4) pa_nil))))) (pss_one (ps_ret (pe_op op_cat (pe_lst (pa_cons (pc_call (c_first_difference T) (hr.mono (by decide)) (by rfl) pass0 (pa_cons (pv 3) (pa_cons (pv 4) pa_nil))) pa_nil)) (pe_ifExp (pt_cmpR op_lt (pv 5) pe_int (nomark _)) (pe_lst (pa_cons pe_int pa_nil)) (pe_lst (pa_cons pe_int (pa_cons (pv 5) pa_nil)))))))))), ?_⟩)
  · obtain ⟨L, d, s, k, o, rfl, _⟩ := h; rfl
  · obtain ⟨L, d, s, k, o, rfl, hH, g, kk⟩ := h
    unfold mParts at kk
    refine ⟨_, rfl, _, rfl, L, d, s, k, rfl, hH, fun b => ?_, fun b => by rw [if_neg (by rw [b]; decide)] at kk; exact kk⟩
    rw [if_pos b] at kk
    refine ⟨_, rfl, _, rfl, L, d, s, o, rfl, hH, fun b2 => ?_, fun b2 => by rw [if_neg (by rw [b2]; decide)] at kk; exact kk⟩
    rw [if_pos b2] at kk
    obtain ⟨_, hk⟩ := isTk_lt b
    obtain ⟨_, ho⟩ := isTk_lt b2
    refine ⟨_, rfl, _, rfl, _, rfl, L, d, s, k.toNat, o.toNat, rfl, hH, g.fine, hk, ho, fun H1 s1 => ?_⟩
    refine ⟨_, rfl, _, rfl, _, _, _, _, _, _, _, _, rfl, (hH.tk _ hk).same s1, (hH.tk _ ho).same s1, g.tk hk, (by show 1 ≤ sizeLine; decide), fun p1 n1 => ?_⟩
    have s2 := s1.trans (Same.new (o := .lst [V.int (Cs05.parts (s.tk k.toNat).pads (s.tk o.toNat).pads 0 : Int)]) n1)
    refine ⟨_, rfl, _, _, rfl, rfl, _, rfl, ?_⟩
    rcases orM1_cases (Cs05.partsAt (loaded s.lo) (loaded s.lo) (s.tk k.toNat).pads (s.tk o.toNat).pads 0) with ⟨e, e1⟩ | ⟨n, e, e1⟩
    · rw [e1]
      rw [e] at kk
      refine itT (by decide) ⟨(by show 1 ≤ sizeLine; decide), fun p2 n2 => ?_⟩
      refine ⟨p1, p2, _, _, rfl, rfl, (Same.new n2) _ _ upd_same, upd_same, (by show 1 + 1 ≤ sizeLine; decide), fun p3 n3 => ?_⟩
      have s4 := (s2.trans (Same.new (o := .lst [V.int 0]) n2)).trans (Same.new (o := .lst ([V.int (Cs05.parts (s.tk k.toNat).pads (s.tk o.toNat).pads 0 : Int)] ++ [V.int 0])) n3)
      exact kk _ L d p3 rfl (hH.same s4) (Fr.same s4) (New.of (Fr.same (s2.trans (Same.new n2))) n3) upd_same
    · rw [e1]
      rw [e] at kk
      refine itF (decide_eq_false (show ¬ (n : Int) < 0 by omega)) ⟨_, rfl, (by show 2 ≤ sizeLine; decide), fun p2 n2 => ?_⟩
      refine ⟨p1, p2, _, _, rfl, rfl, (Same.new n2) _ _ upd_same, upd_same, (by show 1 + 2 ≤ sizeLine; decide), fun p3 n3 => ?_⟩
      have s4 := (s2.trans (Same.new (o := .lst [V.int 1, V.int (n : Int)]) n2)).trans (Same.new (o := .lst ([V.int (Cs05.parts (s.tk k.toNat).pads (s.tk o.toNat).pads 0 : Int)] ++ [V.int 1, V.int (n : Int)])) n3)
      exact kk _ L d p3 rfl (hH.same s4) (Fr.same s4) (New.of (Fr.same (s2.trans (Same.new n2))) n3) upd_same
theorem c_do_free (T : Txt K mg c) : Cal P w K mg base (L2.CX P w) 7 "do_free" ["house", "t"] (sp1 c mFree) := by
  refine T.d_do_free.okX sc_do_free (fun vs H Q E h => ?_) (fun q f cdv A outer s H vs Q E hr h => ⟨_, (pss_cons (ps_expr (pc_call (c_need_frame T) (hr.mono (by decide)) (by rfl) (passes_call (takes_of rfl rfl rfl rfl) (fun _ _ _ _ h => h)) (pa_cons (pv 0) (pa_cons (pv 1) pa_nil)))) (pss_one (ps_ret (pe_lst (pa_cons (pc_call (c_count_free T) (hr.mono (by decide)) (by rfl) pass0 (pa_cons (pv 0) (pa_cons (pv 1) pa_nil))) pa_nil))))), ?_⟩)
  · obtain ⟨L, d, s, t, rfl, _⟩ := h; rfl
  · obtain ⟨L, d, s, t, rfl, hH, g, kk⟩ := h
    unfold mFree at kk
    refine ⟨_, rfl, _, rfl, L, d, s, t, rfl, hH, g, fun b => ?_, fun b => by rw [if_neg (by rw [b]; decide)] at kk; exact kk⟩
    rw [if_pos b] at kk
    obtain ⟨t0, lt⟩ := isFr_lt b
    have et : t = ((t.toNat : Nat) : Int) := by omega
    refine ⟨_, rfl, _, rfl, L, d, s, t.toNat, by rw [← et]; rfl, hH, g, lt, fun H1 s1 => ⟨(by show 1 ≤ sizeLine; decide), fun p n => ?_⟩⟩
    have npp := n
    have s2 := s1.trans (Same.new (o := .lst [V.int (Cs05.free (ahead s s.cur t.toNat) (s.cur.pads.getD t.toNat 0) : Int)]) n)
    exact kk _ L d p rfl (hH.same s2) (Fr.same s2) (New.of (Fr.same s1) npp) upd_same
theorem c_do_patch (T : Txt K mg c) : Cal P w K mg base (L2.CX P w) 7 "do_patch" ["house", "place", "byte"] (sp2 c mPatch) := by
  refine T.d_do_patch.okX sc_do_patch (fun vs H Q E h => ?_) (fun q f cdv A outer s H vs Q E hr h => ⟨_, (pss_cons (ps_expr (pc_call (c_need T) (hr.mono (by decide)) (by rfl) (passes_call (takes_of rfl rfl rfl rfl) (fun _ _ _ _ h => h)) (pa_cons (pe_and (pe_chain op_le op_lt pe_int (pv 1) (pc_int rfl T.g_MOST_BYTES)) (pe_one (pe_chain op_le op_le pe_int (pv 2) pe_int))) (pa_cons (pe_un un_neg pe_int) pa_nil)))) (pss_cons (ps_set (i := 3) sc_do_patch.nd rfl (Or.inl rfl) (pe_ix ix_list (pe_fld (pv 0) rfl) (pv 1) (fun _ _ => rfl))) (pss_cons (ps_asg (pv 2) (pg_sub (pe_fld (pv 0) rfl) (pv 1) set_list)) (pss_cons (ps_expr (pc_call (c_go_to T) (hr.mono (by decide)) (by rfl) pass0 (pa_cons (pv 0) (pa_cons (pe_fld (pv 0) rfl) (pa_cons (pe_fld (pv 0) rfl) pa_nil))))) (pss_one (ps_ret (pe_lst (pa_cons (pv 3) pa_nil)))))))), ?_⟩)
  · obtain ⟨L, d, s, p, b, rfl, _⟩ := h; rfl
  · obtain ⟨L, d, s, p, b, rfl, hH, g, kk⟩ := h
    unfold mPatch at kk
    obtain ⟨dx, hi⟩ := hH.ins
    have no : ¬ ((0 ≤ p ∧ p < 128) ∧ Cs05.isByte b = true) → Refuse c H E (-1) := fun z => by
      rw [if_neg z] at kk; exact kk
    have eb : Cs05.isByte b = true ↔ 0 ≤ b ∧ b ≤ 255 := by unfold Cs05.isByte; rw [Bool.and_eq_true, decide_eq_true_eq, decide_eq_true_eq]
    refine ⟨_, rfl, _, _, rfl, rfl, _, rfl, ?_⟩
    by_cases c1 : (0 : Int) ≤ p
    · refine itT (decide_eq_true c1) ⟨_, _, rfl, rfl, _, rfl, ?_⟩
      by_cases c2 : p < 128
      · refine itT (decide_eq_true c2) ⟨_, rfl, _, _, rfl, rfl, _, rfl, ?_⟩
        by_cases c3 : (0 : Int) ≤ b
        · refine itT (decide_eq_true c3) ⟨_, _, rfl, rfl, _, rfl, _, -1, rfl, fun b4 => ?_, fun b4 => no fun z => (of_decide_eq_false b4) (eb.mp z.2).2⟩
          have c4 : b ≤ 255 := of_decide_eq_true b4
          rw [if_pos ⟨⟨c1, c2⟩, eb.mpr ⟨c3, c4⟩⟩] at kk
          have ep : p = ((p.toNat : Nat) : Int) := by omega
          have ebt : b = ((b.toNat : Nat) : Int) := by omega
          have lp : p.toNat < s.lo.length := by rw [g.lo]; omega
          have hg : s.lo[p.toNat]? = some (s.lo.getD p.toNat 0) := by
            rw [List.getD_eq_getElem?_getD, List.getElem?_eq_getElem lp]; rfl
          refine ⟨_, rfl, d.h, c.H, dx, _, _, rfl, hi, T.clH, T.noH_loaded, hF_loaded _ _ _ _ _, _, rfl, d.l, _, _, _, rfl, rfl, SqL.of hH.lo, at_of ep (vN_get hg), ?_⟩
          refine ⟨_, rfl, _, rfl, d.h, c.H, dx, _, _, rfl, hi, T.clH, T.noH_loaded, hF_loaded _ _ _ _ _, _, rfl, d.l, _, p, p.toNat, rfl, rfl, hH.lo, ?_, ?_⟩
          · rw [vN_len]
            unfold ixN
            rw [if_pos c1, if_pos (by omega)]
          · have h1 := hH.put_l (l' := s.lo.set p.toNat b.toNat) (xs := (vN s.lo).set p.toNat (V.int b)) (by
              rw [ebt, Int.toNat_natCast]; exact vN_set s.lo p.toNat b.toNat)
            have f1 : Fr L H L (upd H d.l (.lst ((vN s.lo).set p.toNat (V.int b)))) := Fr.store hH.lab.l
            generalize upd H d.l (.lst ((vN s.lo).set p.toNat (V.int b))) = H1 at h1 f1
            obtain ⟨dx1, i1⟩ := h1.ins
            have fine1 : Fine { s with lo := s.lo.set p.toNat b.toNat } := ⟨by rw [← g.lo]; exact List.length_set, mem_set g.bytes (by omega), g.most, g.tks⟩
            refine ⟨_, rfl, _, rfl, d.h, c.H, dx1, _, _, rfl, i1, T.clH, T.noH_here, hF_here _ _ _ _ _, _, rfl, d.h, c.H, dx1, _, _, rfl, i1, T.clH, T.noH_played, hF_played _ _ _ _ _, L, d, { s with lo := s.lo.set p.toNat b.toNat }, s.here, s.pl, rfl, h1, fine1, g.here, fun H2 L2 d2 e2 h2 f2 => ?_⟩
            refine ⟨_, rfl, (by show 1 ≤ sizeLine; decide), fun z nz => ?_⟩
            have s3 : Same H2 (upd H2 z (.lst [V.int (s.lo.getD p.toNat 0 : Int)])) := Same.new nz
            exact kk _ L2 d2 z e2 (h2.same s3) ((f1.trans f2).trans (Fr.same s3)) (New.of (f1.trans f2) nz) upd_same
        · exact itF (decide_eq_false c3) ⟨_, rfl, _, -1, rfl, fun b4 => absurd b4 (by decide), fun _ => no fun z => c3 (eb.mp z.2).1⟩
      · exact itF (decide_eq_false c2) ⟨_, rfl, _, -1, rfl, fun b4 => absurd b4 (by decide), fun _ => no fun z => c2 z.1.2⟩
    · exact itF (decide_eq_false c1) ⟨_, rfl, itF rfl ⟨_, rfl, _, -1, rfl, fun b4 => absurd b4 (by decide), fun _ => no fun z => c1 z.1.1⟩⟩
theorem c_do_strays (T : Txt K mg c) : Cal P w K mg base (L2.CX P w) 6 "do_strays" ["house", "k"] (sp1 c mStrays) := by
  refine T.d_do_strays.okX sc_do_strays (fun vs H Q E h => ?_) (fun q f cdv A outer s H vs Q E hr h => ⟨_, (pss_cons (ps_set (i := 2) sc_do_strays.nd rfl (Or.inl rfl) (pc_call (c_first_stray T) (hr.mono (by decide)) (by rfl) pass0 (pa_cons (pv 0) (pa_cons (pc_call (c_take_of T) (hr.mono (by decide)) (by rfl) (passes_call (takes_of rfl rfl rfl rfl) (fun _ _ _ _ h => h)) (pa_cons (pv 0) (pa_cons (pv 1) pa_nil))) pa_nil)))) (pss_one (ps_ret (pe_ifExp (pt_cmpR op_lt (pv 2) pe_int (nomark _)) (pe_lst (pa_cons pe_int pa_nil)) (pe_lst (pa_cons pe_int (pa_cons (pv 2) pa_nil))))))), ?_⟩)
  · obtain ⟨L, d, s, k, rfl, _⟩ := h; rfl
  · obtain ⟨L, d, s, k, rfl, hH, g, kk⟩ := h
    unfold mStrays at kk
    refine ⟨_, rfl, _, rfl, _, rfl, L, d, s, k, rfl, hH, fun b => ?_, fun b => by rw [if_neg (by rw [b]; decide)] at kk; exact kk⟩
    rw [if_pos b] at kk
    obtain ⟨_, hk⟩ := isTk_lt b
    refine ⟨L, d, s, k.toNat, rfl, hH, g.fine, hk, fun H1 s1 => ?_⟩
    refine ⟨_, rfl, _, _, rfl, rfl, _, rfl, ?_⟩
    rcases orM1_cases (Cs05.strays (loaded s.lo) ((s.tk k.toNat).pads.zip (s.tk k.toNat).marks) 0) with ⟨e, e1⟩ | ⟨n, e, e1⟩
    · rw [e1]
      rw [e] at kk
      refine itT (by decide) ⟨(by show 1 ≤ sizeLine; decide), fun p n => ?_⟩
      have npp := n
      have s2 := s1.trans (Same.new (o := .lst [V.int 0]) n)
      exact kk _ L d p rfl (hH.same s2) (Fr.same s2) (New.of (Fr.same s1) npp) upd_same
    · rw [e1]
      rw [e] at kk
      refine itF (decide_eq_false (show ¬ (n : Int) < 0 by omega)) ⟨_, rfl, (by show 2 ≤ sizeLine; decide), fun p np => ?_⟩
      have npp := np
      have s2 := s1.trans (Same.new (o := .lst [V.int 1, V.int (n : Int)]) np)
      exact kk _ L d p rfl (hH.same s2) (Fr.same s2) (New.of (Fr.same s1) npp) upd_same
end
end Tk
-- the part TkCalls5
set_option maxRecDepth 100000
set_option maxHeartbeats 4000000
namespace Tk
open PySem PySem.Spec PyProof.Rows L2
open CsBase (Mach byteAt put inA inX opAt rests upTo frame frames loaded told mark)

/-- the numbers behind a call's number tell the call; where the next begins -/
inductive Args (ns : List Int) (i : Nat) : Int → Cs05.Call → Nat → Prop
  | begin_ (n : Nat) : ns[i]? = some (n : Int) → i + 1 + n ≤ ns.length → Args ns i 0 (.begin_ ((ns.drop (i + 1)).take n)) (i + 1 + n)
  | play (n : Nat) : ns[i]? = some (n : Int) → i + 1 + n ≤ ns.length → Args ns i 1 (.play ((ns.drop (i + 1)).take n)) (i + 1 + n)
  | on (x : Int) : ns[i]? = some x → Args ns i 2 (.on x) (i + 1)
  | go (x y : Int) : ns[i]? = some x → ns[i + 1]? = some y → Args ns i 3 (.go x y) (i + 2)
  | takes : Args ns i 4 .takes i
  | pads (x : Int) : ns[i]? = some x → Args ns i 5 (.pads x) (i + 1)
  | put (x y z : Int) : ns[i]? = some x → ns[i + 1]? = some y → ns[i + 2]? = some z → Args ns i 6 (.put x y z) (i + 3)
  | cut (x : Int) : ns[i]? = some x → Args ns i 7 (.cut x) (i + 1)
  | parts (x y : Int) : ns[i]? = some x → ns[i + 1]? = some y → Args ns i 8 (.parts x y) (i + 2)
  | free (x : Int) : ns[i]? = some x → Args ns i 9 (.free x) (i + 1)
  | state : Args ns i 10 .state i
  | patch (x y : Int) : ns[i]? = some x → ns[i + 1]? = some y → Args ns i 11 (.patch x y) (i + 2)
  | strays (x : Int) : ns[i]? = some x → Args ns i 12 (.strays x) (i + 1)
/-- a call of one number -/
inductive One (s : Hs) (n : Int) : Int → Res → Prop
  | on : One s n 2 (mOn s n)
  | pads : One s n 5 (mPads s n)
  | cut : One s n 7 (mCut s n)
  | free : One s n 9 (mFree s n)
  | strays : One s n 12 (mStrays s n)
def spOne (c : Cs) : Sp := fun vs H Q E => ∃ (L : Addr → Option Nat) (d : Ad) (s : Hs) (p n : Int) (r : Res), vs = [.ref d.h, .int p, .int n] ∧ HAt c H L d s ∧ Good s ∧ One s n p r ∧ Ansr c r L d H Q E
/-- what a call that is read does -/
def Ansr2 (c : Cs) (r : Res) (L : Addr → Option Nat) (d : Ad) (rd a : Addr) (j : Nat) (H : Hp) (Q : VK) (E : XK) : Prop := match r with
  | .error n => ∀ x H', H x = none → H' x = some (.xd [("number", .int n)]) → CAt c H' rd a j → But rd H H' → E (.ref c.D) (some x) H'
  | .ok (s', ans) => ∀ (H' : Hp) (L' : Addr → Option Nat) (d' : Ad) (p : Addr), d'.h = d.h → HAt c H' L' d' s' → (∀ b o, H b = some o → L b = none → b ≠ rd → H' b = some o ∧ L' b = none) → CAt c H' rd a j → L' rd = none → (∀ o, H p = some o → L p = none → p ≠ rd → False) → H' p = some (.lst (ans.map V.int)) → Q (.ref p) H'
def spCall (K : PySem.W.Frag) (c : Cs) : Sp := fun vs H Q E => ∃ (L : Addr → Option Nat) (d : Ad) (s : Hs) (rd a : Addr) (ns : List Int) (i : Nat) (p : Int) (q : Cs05.Call) (j : Nat), vs = [.ref d.h, .int p, .ref rd] ∧ HAt c H L d s ∧ Good s ∧ CAt c H rd a i ∧ L rd = none ∧ SqL K H a (ns.map V.int) ∧
  Args ns i p q j ∧ p ≠ 0 ∧ ns.length ≤ 20000 ∧ Ansr2 c (mcall s q) L d rd a j H Q E
theorem HAt.but {c : Cs} {H H' : Hp} {L : Addr → Option Nat} {d : Ad} {s : Hs} {r : Addr} (h : HAt c H L d s) (lr : L r = none) (b : But r H H') : HAt c H' L d s := by
  have k : ∀ {a : Addr} {o : HO} {i : Nat}, H a = some o → L a = some i → H' a = some o := fun e l => b _ _ e (fun z => by rw [z, lr] at l; cases l)
  obtain ⟨⟨dx, hi⟩, h2, h3, h4, ⟨⟨mx, mi⟩, ml, mw⟩, h6⟩ := h
  refine ⟨⟨dx, k hi h6.h⟩, k h2 h6.l, k h3 h6.T, fun i hi => ⟨?_, k (h4 i hi).pads (h6.p i hi), k (h4 i hi).marks (h6.q i hi)⟩, ⟨⟨mx, k mi h6.m⟩, k ml h6.mc, mw⟩, h6⟩
  obtain ⟨x, e⟩ := (h4 i hi).ins
  exact ⟨x, k e (h6.t i hi)⟩
theorem but_free {r : Addr} {H H1 : Hp} {x : Addr} (b : But r H H1) (hr : H1 r ≠ none) (h : H1 x = none) : H x = none := by
  cases e : H x with
  | none => rfl
  | some o =>
    have ne : x ≠ r := fun z => by rw [z] at h; exact hr h
    rw [b x o e ne] at h; cases h
theorem CAt.same {c : Cs} {H H' : Hp} {r a : Addr} {i : Nat} (h : CAt c H r a i) (s : Same H H') : CAt c H' r a i := let ⟨dx, e⟩ := h; ⟨dx, s _ _ e⟩
/-- behind the reading: what is left is the call itself -/
theorem Ansr2.on {c : Cs} {r : Res} {L : Addr → Option Nat} {d : Ad} {rd a : Addr} {j : Nat} {H H1 : Hp} {Q : VK} {E : XK} (h : Ansr2 c r L d rd a j H Q E) (b : But rd H H1) (hC : CAt c H1 rd a j) (lr : L rd = none) : Ansr c r L d H1 Q E := by
  obtain ⟨dx, hi⟩ := hC
  cases r with
  | error n => exact fun x H' n1 e s => h x H' (but_free b (by rw [hi]; exact fun z => by cases z) n1) e ⟨dx, s _ _ hi⟩ (b.trans (But.same s))
  | ok y =>
    intro H' L' d' p ed hH f nw ep
    obtain ⟨e, l⟩ := f _ _ hi lr
    exact h H' L' d' p ed hH (fun x o hx lx ne => f _ _ (b _ _ hx ne) lx) ⟨dx, e⟩ l (fun o ho lo ne => nw o (b _ _ ho ne) lo) ep
theorem lt_get {ns : List Int} {i : Nat} {z : Int} (h : ns[i]? = some z) : i < ns.length := (List.getElem?_eq_some_iff.mp h).1
section
variable {P : Program} {w : World} {K : PySem.W.Frag} {mg : Str → Option Value} {base : Heap} {c : Cs}
theorem c_call_of_one (T : Txt K mg c) : Cal P w K mg base (L2.CX P w) 8 "call_of_one" ["house", "call", "n"] (spOne c) := by
  refine T.d_call_of_one.okX sc_call_of_one (fun vs H Q E h => ?_) (fun q f cdv A outer s H vs Q E hr h => ⟨_, (pss_cons (ps_if (pt_cmpR op_eq (pv 1) pe_int (nomark _)) (pss_one (ps_ret (pc_call (c_do_on T) (hr.mono (by decide)) (by rfl) (passes_call (takes_of rfl rfl rfl rfl) (fun _ _ _ _ h => h)) (pa_cons (pv 0) (pa_cons (pv 2) pa_nil))))) pss_nil) (pss_cons (ps_if (pt_cmpR op_eq (pv 1) pe_int (nomark _)) (pss_one (ps_ret (pc_call (c_do_pads T) (hr.mono (by decide)) (by rfl) (passes_call (takes_of rfl rfl rfl rfl) (fun _ _ _ _ h => h)) (pa_cons (pv 0) (pa_cons (pv 2) pa_nil))))) pss_nil) (pss_cons (ps_if (pt_cmpR op_eq (pv 1) pe_int (nomark _)) (pss_one (ps_ret (pc_call (c_do_cut T) (hr.mono (by decide)) (by rfl) (passes_call (takes_of rfl rfl rfl rfl) (fun _ _ _ _ h => h)) (pa_cons (pv 0) (pa_cons (pv 2) pa_nil))))) pss_nil) (pss_one (ps_ret (pe_ifExp (pt_cmpR op_eq (pv 1) pe_int (nomark _)) (pc_call (c_do_free T) (hr.mono (by decide)) (by rfl) (passes_call (takes_of rfl rfl rfl rfl) (fun _ _ _ _ h => h)) (pa_cons (pv 0) (pa_cons (pv 2) pa_nil))) (pc_call (c_do_strays T) (hr.mono (by decide)) (by rfl) (passes_call (takes_of rfl rfl rfl rfl) (fun _ _ _ _ h => h)) (pa_cons (pv 0) (pa_cons (pv 2) pa_nil))))))))), ?_⟩)
  · obtain ⟨L, d, s, p, n, r, rfl, _⟩ := h; rfl
  · obtain ⟨L, d, s, p, n, r, rfl, hH, g, ho, kk⟩ := h
    cases ho with
    | on => exact ⟨_, rfl, rfl, _, rfl, itT (by decide) ⟨_, rfl, _, rfl, L, d, s, n, rfl, hH, g, kk⟩⟩
    | pads => exact ⟨_, rfl, rfl, _, rfl, itF (by decide) ⟨_, rfl, rfl, _, rfl, itT (by decide) ⟨_, rfl, _, rfl, L, d, s, n, rfl, hH, g, kk⟩⟩⟩
    | cut => exact ⟨_, rfl, rfl, _, rfl, itF (by decide) ⟨_, rfl, rfl, _, rfl, itF (by decide) ⟨_, rfl, rfl, _, rfl, itT (by decide) ⟨_, rfl, _, rfl, L, d, s, n, rfl, hH, g, kk⟩⟩⟩⟩
    | free => exact ⟨_, rfl, rfl, _, rfl, itF (by decide) ⟨_, rfl, rfl, _, rfl, itF (by decide) ⟨_, rfl, rfl, _, rfl, itF (by decide) ⟨_, rfl, rfl, _, rfl, itT (by decide) ⟨_, rfl, _, rfl, L, d, s, n, rfl, hH, g, kk⟩⟩⟩⟩⟩
    | strays => exact ⟨_, rfl, rfl, _, rfl, itF (by decide) ⟨_, rfl, rfl, _, rfl, itF (by decide) ⟨_, rfl, rfl, _, rfl, itF (by decide) ⟨_, rfl, rfl, _, rfl, itF (by decide) ⟨_, rfl, _, rfl, L, d, s, n, rfl, hH, g, kk⟩⟩⟩⟩⟩
theorem c_answer_call (T : Txt K mg c) : Cal P w K mg base (L2.CX P w) 9 "answer_call" ["house", "call", "reading"] (spCall K c) := by
  refine T.d_answer_call.okX sc_answer_call (fun vs H Q E h => ?_) (fun q f cdv A outer s H vs Q E hr h => ⟨_, (pss_cons (ps_if (pt_cmpR op_eq (pv 1) pe_int (nomark _)) (pss_one (ps_ret (pc_call (c_do_play T) (hr.mono (by decide)) (by rfl) (passes_call (takes_of rfl rfl rfl rfl) (fun _ _ _ _ h => h)) (pa_cons (pv 0) (pa_cons (pc_meth0 (pv 2) T.clC (c_next_row T) (hr.mono (by decide)) pass0) pa_nil))))) pss_nil) (pss_cons (ps_if (pt_cmpR op_eq (pv 1) pe_int (nomark _)) (pss_one (ps_ret (pc_call (c_do_takes T) (hr.mono (by decide)) (by rfl) pass0 (pa_cons (pv 0) pa_nil)))) pss_nil) (pss_cons (ps_if (pt_cmpR op_eq (pv 1) pe_int (nomark _)) (pss_one (ps_ret (pc_call (c_as_numbers T) (hr.mono (by decide)) (by rfl) pass0 (pa_cons (pe_fld (pv 0) rfl) pa_nil)))) pss_nil) (pss_cons (ps_set (i := 3) sc_answer_call.nd rfl (Or.inl rfl) (pc_meth0 (pv 2) T.clC (c_next_number T) (hr.mono (by decide)) pass0)) (pss_cons (ps_if (pt_cmpR op_in_seq (pv 1) (pe_tup (pa_cons pe_int (pa_cons pe_int (pa_cons pe_int (pa_cons pe_int (pa_cons pe_int pa_nil)))))) (by rfl)) (pss_one (ps_ret (pc_call (c_call_of_one T) (hr.mono (by decide)) (by rfl) (passes_call (takes_of rfl rfl rfl rfl) (fun _ _ _ _ h => h)) (pa_cons (pv 0) (pa_cons (pv 1) (pa_cons (pv 3) pa_nil)))))) pss_nil) (pss_cons (ps_set (i := 4) sc_answer_call.nd rfl (Or.inl rfl) (pc_meth0 (pv 2) T.clC (c_next_number T) (hr.mono (by decide)) pass0)) (pss_cons (ps_if (pt_cmpR op_eq (pv 1) pe_int (nomark _)) (pss_one (ps_ret (pc_call (c_do_go T) (hr.mono (by decide)) (by rfl) (passes_call (takes_of rfl rfl rfl rfl) (fun _ _ _ _ h => h)) (pa_cons (pv 0) (pa_cons (pv 3) (pa_cons (pv 4) pa_nil)))))) pss_nil) (pss_cons (ps_if (pt_cmpR op_eq (pv 1) pe_int (nomark _)) (pss_one (ps_ret (pc_call (c_do_put T) (hr.mono (by decide)) (by rfl) (passes_call (takes_of rfl rfl rfl rfl) (fun _ _ _ _ h => h)) (pa_cons (pv 0) (pa_cons (pv 3) (pa_cons (pv 4) (pa_cons (pc_meth0 (pv 2) T.clC (c_next_number T) (hr.mono (by decide)) pass0) pa_nil))))))) pss_nil) (pss_one (ps_ret (pe_ifExp (pt_cmpR op_eq (pv 1) pe_int (nomark _)) (pc_call (c_do_parts T) (hr.mono (by decide)) (by rfl) (passes_call (takes_of rfl rfl rfl rfl) (fun _ _ _ _ h => h)) (pa_cons (pv 0) (pa_cons (pv 3) (pa_cons (pv 4) pa_nil)))) (pc_call (c_do_patch T) (hr.mono (by decide)) (by rfl) (passes_call (takes_of rfl rfl rfl rfl) (fun _ _ _ _ h => h)) (pa_cons (pv 0) (pa_cons (pv 3) (pa_cons (pv 4) pa_nil))))))))))))))), ?_⟩)
  · obtain ⟨L, d, s, rd, a, ns, i, p, q, j, rfl, _⟩ := h; rfl
  · obtain ⟨L, d, s, rd, a, ns, i, p, q, j, rfl, hH, g, hC, lr, hS, hA, p0, hl, kk⟩ := h
    obtain ⟨dr, ri⟩ := hC
    have hC : CAt c H rd a i := ⟨dr, ri⟩
    cases hA with
    | begin_ n => exact absurd rfl p0
    | play n hz hn =>
      refine ⟨_, rfl, rfl, _, rfl, itT (by decide) ?_⟩
      refine ⟨_, rfl, _, rfl, rd, dr, _, rfl, ri, cF_no_next_row _ _, rd, a, ns, i, n, rfl, hC, hS, hz, hn, fun H1 p hC1 b1 np ep => ?_⟩
      have hH1 := hH.but lr b1
      obtain ⟨L2, hH2, lp, fr⟩ := unmark hH np hH1
      refine ⟨L2, d, s, p, _, rfl, hH2, g, ep, lp, ?_, ?_⟩
      · rw [List.length_take, List.length_drop]; omega
      · have q := kk.on b1 hC1 lr
        have q' : Ansr c (mPlay s ((ns.drop (i + 1)).take n)) L d H1 Q E := q
        revert q'
        cases mPlay s ((ns.drop (i + 1)).take n) with
        | error m => exact fun q' => q'
        | ok y => exact fun q' H' L' d' p' ed h' f' nw e' => q' H' L' d' p' ed h' (fr.trans f') (New.back fr nw) e'
    | takes =>
      refine ⟨_, rfl, rfl, _, rfl, itF (by decide) ⟨_, rfl, rfl, _, rfl, itT (by decide) ?_⟩⟩
      exact ⟨_, rfl, L, d, s, rfl, hH, g, kk.on (But.refl _ _) hC lr⟩
    | state =>
      obtain ⟨dx, hi⟩ := hH.ins
      refine ⟨_, rfl, rfl, _, rfl, itF (by decide) ⟨_, rfl, rfl, _, rfl, itF (by decide) ⟨_, rfl, rfl, _, rfl, itT (by decide) ?_⟩⟩⟩
      refine ⟨_, rfl, d.h, c.H, dx, _, _, rfl, hi, T.clH, T.noH_machine, hF_machine _ _ _ _ _, d.m, d.mc, _, rfl, hH.mach, fun p H1 s1 np ep => ?_⟩
      have q : Ansr c (mState s) L d H Q E := kk.on (But.refl _ _) hC lr
      exact q H1 L d p rfl (hH.same s1) (Fr.same s1) (New.no np) (by rw [ep, vN_ints])
    | on x hx =>
      refine ⟨_, rfl, rfl, _, rfl, itF (by decide) ⟨_, rfl, rfl, _, rfl, itF (by decide) ⟨_, rfl, rfl, _, rfl, itF (by decide) ?_⟩⟩⟩
      refine ⟨_, rfl, rd, dr, _, rfl, ri, cF_no_next_number _ _, rd, a, ns, i, x, rfl, hC, hS, hx, fun H1 hC1 b1 => ?_⟩
      refine ⟨_, rfl, (by show 5 ≤ sizeLine; decide), fun t nt => ⟨t, _, rfl, .inr (SqT.of upd_same), rfl, rfl, _, rfl, itT (by decide) ?_⟩⟩
      have s2 : Same H1 (upd H1 t (.tup [.int 2, .int 5, .int 7, .int 9, .int 12])) := Same.new nt
      exact ⟨_, rfl, _, rfl, _, rfl, L, d, s, 2, x, _, rfl, (hH.but lr b1).same s2, g, .on, Ansr.same (kk.on b1 hC1 lr) s2⟩
    | pads x hx =>
      refine ⟨_, rfl, rfl, _, rfl, itF (by decide) ⟨_, rfl, rfl, _, rfl, itF (by decide) ⟨_, rfl, rfl, _, rfl, itF (by decide) ?_⟩⟩⟩
      refine ⟨_, rfl, rd, dr, _, rfl, ri, cF_no_next_number _ _, rd, a, ns, i, x, rfl, hC, hS, hx, fun H1 hC1 b1 => ?_⟩
      refine ⟨_, rfl, (by show 5 ≤ sizeLine; decide), fun t nt => ⟨t, _, rfl, .inr (SqT.of upd_same), rfl, rfl, _, rfl, itT (by decide) ?_⟩⟩
      have s2 : Same H1 (upd H1 t (.tup [.int 2, .int 5, .int 7, .int 9, .int 12])) := Same.new nt
      exact ⟨_, rfl, _, rfl, _, rfl, L, d, s, 5, x, _, rfl, (hH.but lr b1).same s2, g, .pads, Ansr.same (kk.on b1 hC1 lr) s2⟩
    | cut x hx =>
      refine ⟨_, rfl, rfl, _, rfl, itF (by decide) ⟨_, rfl, rfl, _, rfl, itF (by decide) ⟨_, rfl, rfl, _, rfl, itF (by decide) ?_⟩⟩⟩
      refine ⟨_, rfl, rd, dr, _, rfl, ri, cF_no_next_number _ _, rd, a, ns, i, x, rfl, hC, hS, hx, fun H1 hC1 b1 => ?_⟩
      refine ⟨_, rfl, (by show 5 ≤ sizeLine; decide), fun t nt => ⟨t, _, rfl, .inr (SqT.of upd_same), rfl, rfl, _, rfl, itT (by decide) ?_⟩⟩
      have s2 : Same H1 (upd H1 t (.tup [.int 2, .int 5, .int 7, .int 9, .int 12])) := Same.new nt
      exact ⟨_, rfl, _, rfl, _, rfl, L, d, s, 7, x, _, rfl, (hH.but lr b1).same s2, g, .cut, Ansr.same (kk.on b1 hC1 lr) s2⟩
    | free x hx =>
      refine ⟨_, rfl, rfl, _, rfl, itF (by decide) ⟨_, rfl, rfl, _, rfl, itF (by decide) ⟨_, rfl, rfl, _, rfl, itF (by decide) ?_⟩⟩⟩
      refine ⟨_, rfl, rd, dr, _, rfl, ri, cF_no_next_number _ _, rd, a, ns, i, x, rfl, hC, hS, hx, fun H1 hC1 b1 => ?_⟩
      refine ⟨_, rfl, (by show 5 ≤ sizeLine; decide), fun t nt => ⟨t, _, rfl, .inr (SqT.of upd_same), rfl, rfl, _, rfl, itT (by decide) ?_⟩⟩
      have s2 : Same H1 (upd H1 t (.tup [.int 2, .int 5, .int 7, .int 9, .int 12])) := Same.new nt
      exact ⟨_, rfl, _, rfl, _, rfl, L, d, s, 9, x, _, rfl, (hH.but lr b1).same s2, g, .free, Ansr.same (kk.on b1 hC1 lr) s2⟩
    | strays x hx =>
      refine ⟨_, rfl, rfl, _, rfl, itF (by decide) ⟨_, rfl, rfl, _, rfl, itF (by decide) ⟨_, rfl, rfl, _, rfl, itF (by decide) ?_⟩⟩⟩
      refine ⟨_, rfl, rd, dr, _, rfl, ri, cF_no_next_number _ _, rd, a, ns, i, x, rfl, hC, hS, hx, fun H1 hC1 b1 => ?_⟩
      refine ⟨_, rfl, (by show 5 ≤ sizeLine; decide), fun t nt => ⟨t, _, rfl, .inr (SqT.of upd_same), rfl, rfl, _, rfl, itT (by decide) ?_⟩⟩
      have s2 : Same H1 (upd H1 t (.tup [.int 2, .int 5, .int 7, .int 9, .int 12])) := Same.new nt
      exact ⟨_, rfl, _, rfl, _, rfl, L, d, s, 12, x, _, rfl, (hH.but lr b1).same s2, g, .strays, Ansr.same (kk.on b1 hC1 lr) s2⟩
    | go x y hx hy =>
      refine ⟨_, rfl, rfl, _, rfl, itF (by decide) ⟨_, rfl, rfl, _, rfl, itF (by decide) ⟨_, rfl, rfl, _, rfl, itF (by decide) ?_⟩⟩⟩
      refine ⟨_, rfl, rd, dr, _, rfl, ri, cF_no_next_number _ _, rd, a, ns, i, x, rfl, hC, hS, hx, fun H1 ⟨d1, r1⟩ b1 => ?_⟩
      have hS1 := sq_but hS ri b1
      refine ⟨_, rfl, (by show 5 ≤ sizeLine; decide), fun t nt => ⟨t, _, rfl, .inr (SqT.of upd_same), rfl, rfl, _, rfl, itF (by decide) ?_⟩⟩
      have s2 : Same H1 (upd H1 t (.tup [.int 2, .int 5, .int 7, .int 9, .int 12])) := Same.new nt
      have b2 := b1.trans (But.same s2)
      refine ⟨_, rfl, rd, d1, _, rfl, s2 _ _ r1, cF_no_next_number _ _, rd, a, ns, i + 1, y, rfl, ⟨d1, s2 _ _ r1⟩, s2.seq hS1, hy, fun H3 hC3 b3 => ?_⟩
      have b4 := b2.trans b3
      exact ⟨_, rfl, rfl, _, rfl, itT (by decide) ⟨_, rfl, _, rfl, _, rfl, L, d, s, x, y, rfl, hH.but lr b4, g, kk.on b4 hC3 lr⟩⟩
    | put x y z hx hy hz =>
      refine ⟨_, rfl, rfl, _, rfl, itF (by decide) ⟨_, rfl, rfl, _, rfl, itF (by decide) ⟨_, rfl, rfl, _, rfl, itF (by decide) ?_⟩⟩⟩
      refine ⟨_, rfl, rd, dr, _, rfl, ri, cF_no_next_number _ _, rd, a, ns, i, x, rfl, hC, hS, hx, fun H1 ⟨d1, r1⟩ b1 => ?_⟩
      have hS1 := sq_but hS ri b1
      refine ⟨_, rfl, (by show 5 ≤ sizeLine; decide), fun t nt => ⟨t, _, rfl, .inr (SqT.of upd_same), rfl, rfl, _, rfl, itF (by decide) ?_⟩⟩
      have s2 : Same H1 (upd H1 t (.tup [.int 2, .int 5, .int 7, .int 9, .int 12])) := Same.new nt
      have b2 := b1.trans (But.same s2)
      refine ⟨_, rfl, rd, d1, _, rfl, s2 _ _ r1, cF_no_next_number _ _, rd, a, ns, i + 1, y, rfl, ⟨d1, s2 _ _ r1⟩, s2.seq hS1, hy, fun H3 ⟨d3, r3⟩ b3 => ?_⟩
      have hS3 := sq_but (s2.seq hS1) (s2 _ _ r1) b3
      refine ⟨_, rfl, rfl, _, rfl, itF (by decide) ⟨_, rfl, rfl, _, rfl, itT (by decide) ?_⟩⟩
      refine ⟨_, rfl, _, rfl, _, rfl, _, rfl, rd, d3, _, rfl, r3, cF_no_next_number _ _, rd, a, ns, i + 2, z, rfl, ⟨d3, r3⟩, hS3, hz, fun H4 hC4 b4 => ?_⟩
      have b5 := (b2.trans b3).trans b4
      exact ⟨L, d, s, x, y, z, rfl, hH.but lr b5, g, kk.on b5 hC4 lr⟩
    | parts x y hx hy =>
      refine ⟨_, rfl, rfl, _, rfl, itF (by decide) ⟨_, rfl, rfl, _, rfl, itF (by decide) ⟨_, rfl, rfl, _, rfl, itF (by decide) ?_⟩⟩⟩
      refine ⟨_, rfl, rd, dr, _, rfl, ri, cF_no_next_number _ _, rd, a, ns, i, x, rfl, hC, hS, hx, fun H1 ⟨d1, r1⟩ b1 => ?_⟩
      have hS1 := sq_but hS ri b1
      refine ⟨_, rfl, (by show 5 ≤ sizeLine; decide), fun t nt => ⟨t, _, rfl, .inr (SqT.of upd_same), rfl, rfl, _, rfl, itF (by decide) ?_⟩⟩
      have s2 : Same H1 (upd H1 t (.tup [.int 2, .int 5, .int 7, .int 9, .int 12])) := Same.new nt
      have b2 := b1.trans (But.same s2)
      refine ⟨_, rfl, rd, d1, _, rfl, s2 _ _ r1, cF_no_next_number _ _, rd, a, ns, i + 1, y, rfl, ⟨d1, s2 _ _ r1⟩, s2.seq hS1, hy, fun H3 hC3 b3 => ?_⟩
      have b4 := b2.trans b3
      exact ⟨_, rfl, rfl, _, rfl, itF (by decide) ⟨_, rfl, rfl, _, rfl, itF (by decide) ⟨_, rfl, rfl, _, rfl, itT (by decide) ⟨_, rfl, _, rfl, _, rfl, L, d, s, x, y, rfl, hH.but lr b4, g, kk.on b4 hC3 lr⟩⟩⟩⟩
    | patch x y hx hy =>
      refine ⟨_, rfl, rfl, _, rfl, itF (by decide) ⟨_, rfl, rfl, _, rfl, itF (by decide) ⟨_, rfl, rfl, _, rfl, itF (by decide) ?_⟩⟩⟩
      refine ⟨_, rfl, rd, dr, _, rfl, ri, cF_no_next_number _ _, rd, a, ns, i, x, rfl, hC, hS, hx, fun H1 ⟨d1, r1⟩ b1 => ?_⟩
      have hS1 := sq_but hS ri b1
      refine ⟨_, rfl, (by show 5 ≤ sizeLine; decide), fun t nt => ⟨t, _, rfl, .inr (SqT.of upd_same), rfl, rfl, _, rfl, itF (by decide) ?_⟩⟩
      have s2 : Same H1 (upd H1 t (.tup [.int 2, .int 5, .int 7, .int 9, .int 12])) := Same.new nt
      have b2 := b1.trans (But.same s2)
      refine ⟨_, rfl, rd, d1, _, rfl, s2 _ _ r1, cF_no_next_number _ _, rd, a, ns, i + 1, y, rfl, ⟨d1, s2 _ _ r1⟩, s2.seq hS1, hy, fun H3 hC3 b3 => ?_⟩
      have b4 := b2.trans b3
      exact ⟨_, rfl, rfl, _, rfl, itF (by decide) ⟨_, rfl, rfl, _, rfl, itF (by decide) ⟨_, rfl, rfl, _, rfl, itF (by decide) ⟨_, rfl, _, rfl, _, rfl, L, d, s, x, y, rfl, hH.but lr b4, g, kk.on b4 hC3 lr⟩⟩⟩⟩
end
end Tk
-- the part TkRun
set_option maxHeartbeats 2000000
namespace Tk
open CsBase

/-! ### the whole line of calls, in the mirror -/
def run : Hs → List Cs05.Call → List Int
  | _, [] => []
  | s, q :: r => (((res s (mcall s q)).2.length : Int) :: (res s (mcall s q)).2) ++ run (res s (mcall s q)).1 r
theorem told_len {s : Hs} (g : Good s) : (told s.m).length = 133 := by
  show ([s.m.a, s.m.x, s.m.pc, if s.m.z = true then 1 else 0, if s.m.c = true then 1 else 0] ++ s.m.mem.toList).length = 133
  rw [List.length_append]
  show 5 + s.m.mem.toList.length = 133
  rw [Array.length_toList, g.m.size]
theorem flat_le (l : List Tak) : (l.flatMap toldTake).length = 3 * l.length := flat_len l
theorem opt_len (o : Option Nat) : (opt o).length ≤ 2 := by cases o <;> simp [opt]
theorem done_len (s h : Hs) : (res s (done h)).2.length ≤ 133 := by show 3 ≤ 133; decide
theorem err_len (s : Hs) (n : Int) : (res s (.error n)).2.length ≤ 133 := by show 1 ≤ 133; decide
theorem ite_len {s : Hs} {c : Prop} [Decidable c] {a b : Res} (h1 : c → (res s a).2.length ≤ 133) (h2 : (res s b).2.length ≤ 133) : (res s (if c then a else b)).2.length ≤ 133 := by
  by_cases h : c
  · rw [if_pos h]; exact h1 h
  · rw [if_neg h]; exact h2
/-- no answer is longer than the machine told -/
theorem mcall_len {s : Hs} (g : Good s) (q : Cs05.Call) : (res s (mcall s q)).2.length ≤ 133 := by
  cases q with
  | begin_ l => exact ite_len (fun _ => by show 1 ≤ 133; decide) (err_len _ _)
  | play l => exact ite_len (fun _ => ite_len (fun _ => done_len _ _) (err_len _ _)) (err_len _ _)
  | on n => exact ite_len (fun _ => done_len _ _) (err_len _ _)
  | go k t => exact ite_len (fun _ => ite_len (fun _ => done_len _ _) (err_len _ _)) (err_len _ _)
  | takes =>
    show ((s.ts.length : Int) :: s.ts.flatMap toldTake).length ≤ 133
    rw [List.length_cons, flat_le]
    have := g.most
    omega
  | pads k =>
    refine ite_len (fun e => ?_) (err_len _ _)
    show (((s.tk k.toNat).pads.length : Int) :: intsN (s.tk k.toNat).pads).length ≤ 133
    have := (g.tk (isTk_lt e).2).len
    unfold intsN
    rw [List.length_cons, List.length_map]
    omega
  | put k a b => exact ite_len (fun _ => ite_len (fun _ => ite_len (fun _ => done_len _ _) (err_len _ _)) (err_len _ _)) (err_len _ _)
  | cut t => exact ite_len (fun _ => ite_len (fun _ => done_len _ _) (err_len _ _)) (err_len _ _)
  | parts a b =>
    refine ite_len (fun _ => ite_len (fun _ => ?_) (err_len _ _)) (err_len _ _)
    show ((_ : Int) :: opt _).length ≤ 133
    have := opt_len (Cs05.partsAt (loaded s.lo) (loaded s.lo) (s.tk a.toNat).pads (s.tk b.toNat).pads 0)
    rw [List.length_cons]
    omega
  | free t => exact ite_len (fun _ => by show 1 ≤ 133; decide) (err_len _ _)
  | state =>
    show (intsN (told s.m)).length ≤ 133
    unfold intsN
    rw [List.length_map, told_len g]
    exact Nat.le_refl _
  | patch p v => exact ite_len (fun _ => by show 1 ≤ 133; decide) (err_len _ _)
  | strays k =>
    refine ite_len (fun _ => ?_) (err_len _ _)
    show (opt _).length ≤ 133
    have := opt_len (Cs05.strays (loaded s.lo) ((s.tk k.toNat).pads.zip (s.tk k.toNat).marks) 0)
    omega
/-- the mirror's state behind a call is good, whatever it was to the specification -/
theorem good_from {s : Hs} {st : Cs05.St} (r : Rel st s) (g : Good s) (q : Cs05.Call) : Good (res s (mcall s q)).1 := (agree r g q).2.2

/-! ### the calls read -/
inductive Reads (ns : List Int) : Nat → List Cs05.Call → Prop
  | nil : Reads ns ns.length []
  | cons {i j : Nat} {p : Int} {q : Cs05.Call} {r : List Cs05.Call} : ns[i]? = some p → Args ns (i + 1) p q j → Reads ns j r → Reads ns i (q :: r)
theorem Args.le {ns : List Int} {i j : Nat} {p : Int} {q : Cs05.Call} (h : Args ns i p q j) : i ≤ j := by
  cases h <;> omega
theorem Reads.le {ns : List Int} {i : Nat} {r : List Cs05.Call} (h : Reads ns i r) : i ≤ ns.length := by
  cases h with
  | nil => exact Nat.le_refl _
  | cons h1 _ _ => exact Nat.le_of_lt (lt_get h1)
theorem get_app (pre l : List Int) (i : Nat) : (pre ++ l)[pre.length + i]? = l[i]? := by
  rw [List.getElem?_append_right (Nat.le_add_right _ _), Nat.add_sub_cancel_left]
theorem drop_app (pre l : List Int) (i : Nat) : (pre ++ l).drop (pre.length + i) = l.drop i := by
  rw [List.drop_append, List.drop_eq_nil_of_le (by omega), Nat.add_sub_cancel_left]; rfl
theorem row_spec {l x t : List Int} (h : PyFlat.row l = some (x, t)) : ∃ n : Nat, l[0]? = some (n : Int) ∧ n + 1 ≤ l.length ∧ x = (l.drop 1).take n ∧ t = l.drop (n + 1) := by
  cases l with
  | nil => cases h
  | cons n r =>
    unfold PyFlat.row at h
    dsimp only at h
    by_cases c : 0 ≤ n ∧ n.toNat ≤ r.length
    · rw [if_pos c] at h
      injection h with h
      injection h with h1 h2
      refine ⟨n.toNat, ?_, ?_, h1.symm, h2.symm⟩
      · show some n = some ((n.toNat : Nat) : Int)
        congr 1; omega
      · rw [List.length_cons]; omega
    · rw [if_neg c] at h; cases h
theorem rows1 {l t : List Int} {xs : List (List Int)} (h : PyFlat.rows 1 l = some (xs, t)) : ∃ x, PyFlat.row l = some (x, t) ∧ xs = [x] := by
  unfold PyFlat.rows at h
  cases e : PyFlat.row l with
  | none => rw [e] at h; cases h
  | some y =>
    obtain ⟨x, s⟩ := y
    rw [e] at h
    have h' : some ([x], s) = some (xs, t) := h
    injection h' with h'
    injection h' with h1 h2
    exact ⟨x, by rw [h2], h1.symm⟩
theorem shape_cases {p : Int} {y : Nat × Nat} (h : PyCs05.shape p = some y) : (p = 0 ∧ y = (0, 1)) ∨ (p = 1 ∧ y = (0, 1)) ∨ (p = 2 ∧ y = (1, 0)) ∨ (p = 3 ∧ y = (2, 0)) ∨ (p = 4 ∧ y = (0, 0)) ∨ (p = 5 ∧ y = (1, 0)) ∨ (p = 6 ∧ y = (3, 0)) ∨ (p = 7 ∧ y = (1, 0)) ∨ (p = 8 ∧ y = (2, 0)) ∨ (p = 9 ∧ y = (1, 0)) ∨ (p = 10 ∧ y = (0, 0)) ∨ (p = 11 ∧ y = (2, 0)) ∨ (p = 12 ∧ y = (1, 0)) := by
  unfold PyCs05.shape at h
  by_cases hp : p = 0
  · rw [if_pos hp] at h; exact .inl ⟨hp, (Option.some.inj h).symm⟩
  rw [if_neg hp] at h
  clear hp
  by_cases hp : p = 1
  · rw [if_pos hp] at h; exact .inr (.inl ⟨hp, (Option.some.inj h).symm⟩)
  rw [if_neg hp] at h
  clear hp
  by_cases hp : p = 2
  · rw [if_pos hp] at h; exact .inr (.inr (.inl ⟨hp, (Option.some.inj h).symm⟩))
  rw [if_neg hp] at h
  clear hp
  by_cases hp : p = 3
  · rw [if_pos hp] at h; exact .inr (.inr (.inr (.inl ⟨hp, (Option.some.inj h).symm⟩)))
  rw [if_neg hp] at h
  clear hp
  by_cases hp : p = 4
  · rw [if_pos hp] at h; exact .inr (.inr (.inr (.inr (.inl ⟨hp, (Option.some.inj h).symm⟩))))
  rw [if_neg hp] at h
  clear hp
  by_cases hp : p = 5
  · rw [if_pos hp] at h; exact .inr (.inr (.inr (.inr (.inr (.inl ⟨hp, (Option.some.inj h).symm⟩)))))
  rw [if_neg hp] at h
  clear hp
  by_cases hp : p = 6
  · rw [if_pos hp] at h; exact .inr (.inr (.inr (.inr (.inr (.inr (.inl ⟨hp, (Option.some.inj h).symm⟩))))))
  rw [if_neg hp] at h
  clear hp
  by_cases hp : p = 7
  · rw [if_pos hp] at h; exact .inr (.inr (.inr (.inr (.inr (.inr (.inr (.inl ⟨hp, (Option.some.inj h).symm⟩)))))))
  rw [if_neg hp] at h
  clear hp
  by_cases hp : p = 8
  · rw [if_pos hp] at h; exact .inr (.inr (.inr (.inr (.inr (.inr (.inr (.inr (.inl ⟨hp, (Option.some.inj h).symm⟩))))))))
  rw [if_neg hp] at h
  clear hp
  by_cases hp : p = 9
  · rw [if_pos hp] at h; exact .inr (.inr (.inr (.inr (.inr (.inr (.inr (.inr (.inr (.inl ⟨hp, (Option.some.inj h).symm⟩)))))))))
  rw [if_neg hp] at h
  clear hp
  by_cases hp : p = 10
  · rw [if_pos hp] at h; exact .inr (.inr (.inr (.inr (.inr (.inr (.inr (.inr (.inr (.inr (.inl ⟨hp, (Option.some.inj h).symm⟩))))))))))
  rw [if_neg hp] at h
  clear hp
  by_cases hp : p = 11
  · rw [if_pos hp] at h; exact .inr (.inr (.inr (.inr (.inr (.inr (.inr (.inr (.inr (.inr (.inr (.inl ⟨hp, (Option.some.inj h).symm⟩)))))))))))
  rw [if_neg hp] at h
  clear hp
  by_cases hp : p = 12
  · rw [if_pos hp] at h; exact .inr (.inr (.inr (.inr (.inr (.inr (.inr (.inr (.inr (.inr (.inr (.inr (⟨hp, (Option.some.inj h).symm⟩))))))))))))
  rw [if_neg hp] at h
  clear hp
  cases h
/-- a call of so many numbers and no row -/
theorem call_nums {p : Int} {r : List Int} {n : Nat} {c : List (List Int)} {t : List Int} (hs : PyCs05.shape p = some (n, 0)) (h : PyFlat.call PyCs05.shape (p :: r) = some (c, t)) : n ≤ r.length ∧ c = [p :: r.take n] ∧ t = r.drop n := by
  unfold PyFlat.call at h
  dsimp only at h
  rw [hs] at h
  dsimp only at h
  by_cases l : r.length < n
  · rw [if_pos l] at h; cases h
  · rw [if_neg l] at h
    have h' : some ([p :: r.take n], r.drop n) = some (c, t) := h
    injection h' with h'
    injection h' with h1 h2
    exact ⟨by omega, h1.symm, h2.symm⟩
theorem call_row {p : Int} {r : List Int} {c : List (List Int)} {t : List Int} (hs : PyCs05.shape p = some (0, 1)) (h : PyFlat.call PyCs05.shape (p :: r) = some (c, t)) : ∃ x, PyFlat.row r = some (x, t) ∧ c = [[p], x] := by
  unfold PyFlat.call at h
  dsimp only at h
  rw [hs] at h
  dsimp only at h
  rw [if_neg (by omega)] at h
  cases e : PyFlat.rows 1 (r.drop 0) with
  | none => rw [e] at h; cases h
  | some y =>
    obtain ⟨xs, s⟩ := y
    rw [e] at h
    have h' : some ((p :: r.take 0) :: xs, s) = some (c, t) := h
    injection h' with h'
    injection h' with h1 h2
    obtain ⟨x, e1, e2⟩ := rows1 e
    refine ⟨x, by rw [← h2]; exact e1, ?_⟩
    rw [← h1, e2]; rfl
theorem one_get {r : List Int} (h : 1 ≤ r.length) : ∃ x, r[0]? = some x ∧ r.take 1 = [x] := by
  cases r with
  | nil => exact absurd h (by decide)
  | cons x r => exact ⟨x, rfl, rfl⟩
theorem two_get {r : List Int} (h : 2 ≤ r.length) : ∃ x y, r[0]? = some x ∧ r[1]? = some y ∧ r.take 2 = [x, y] := by
  cases r with
  | nil => exact absurd h (by decide)
  | cons x r =>
    cases r with
    | nil => exact absurd h (by show ¬ 2 ≤ 1; decide)
    | cons y r => exact ⟨x, y, rfl, rfl, rfl⟩
theorem three_get {r : List Int} (h : 3 ≤ r.length) : ∃ x y z, r[0]? = some x ∧ r[1]? = some y ∧ r[2]? = some z ∧ r.take 3 = [x, y, z] := by
  cases r with
  | nil => exact absurd h (by decide)
  | cons x r =>
    cases r with
    | nil => exact absurd h (by show ¬ 3 ≤ 1; decide)
    | cons y r =>
      cases r with
      | nil => exact absurd h (by show ¬ 3 ≤ 2; decide)
      | cons z r => exact ⟨x, y, z, rfl, rfl, rfl, rfl⟩
/-- one call's text: the call, and where the next one stands -/
theorem call_spec {p : Int} {r : List Int} {c : List (List Int)} {t : List Int} (h : PyFlat.call PyCs05.shape (p :: r) = some (c, t)) (pre : List Int) :
    ∃ q k, Cs05Neutral.callOf (PyCs05.whole c) = some q ∧ Args (pre ++ p :: r) (pre.length + 1) p q (pre.length + k) ∧ t = (p :: r).drop k ∧ k ≤ (p :: r).length ∧ 1 ≤ k := by
  have hs : ∃ y, PyCs05.shape p = some y := by
    cases e : PyCs05.shape p with
    | none => unfold PyFlat.call at h; dsimp only at h; rw [e] at h; cases h
    | some y => exact ⟨y, rfl⟩
  obtain ⟨y, hs⟩ := hs
  have g : ∀ (i : Nat), (pre ++ p :: r)[pre.length + 1 + i]? = r[i]? := fun i => by
    rw [Nat.add_assoc, get_app]
    rw [Nat.add_comm 1 i, List.getElem?_cons_succ]
  have gd : ∀ (i : Nat), (pre ++ p :: r).drop (pre.length + 1 + i) = r.drop i := fun i => by
    rw [Nat.add_assoc, drop_app, Nat.add_comm 1 i, List.drop_succ_cons]
  have ln : (pre ++ p :: r).length = pre.length + 1 + r.length := by rw [List.length_append, List.length_cons]; omega
  have one : ∀ {q : Int → Cs05.Call}, y = (1, 0) → (∀ x, Cs05Neutral.callOf (PyCs05.whole [[p, x]]) = some (q x)) → (∀ (ns : List Int) (i : Nat) (x : Int), ns[i]? = some x → Args ns i p (q x) (i + 1)) →
      ∃ q k, Cs05Neutral.callOf (PyCs05.whole c) = some q ∧ Args (pre ++ p :: r) (pre.length + 1) p q (pre.length + k) ∧ t = (p :: r).drop k ∧ k ≤ (p :: r).length ∧ 1 ≤ k := fun {q} ey hc ha => by
    subst ey
    obtain ⟨h1, h2, h3⟩ := call_nums hs h
    obtain ⟨x, e1, e2⟩ := one_get h1
    rw [e2] at h2
    exact ⟨q x, 2, by rw [h2]; exact hc x, ha _ (pre.length + 1) x (by rw [← e1]; exact g 0), h3, by rw [List.length_cons]; omega, by omega⟩
  have two : ∀ {q : Int → Int → Cs05.Call}, y = (2, 0) → (∀ x z, Cs05Neutral.callOf (PyCs05.whole [[p, x, z]]) = some (q x z)) → (∀ (ns : List Int) (i : Nat) (x z : Int), ns[i]? = some x → ns[i + 1]? = some z → Args ns i p (q x z) (i + 2)) →
      ∃ q k, Cs05Neutral.callOf (PyCs05.whole c) = some q ∧ Args (pre ++ p :: r) (pre.length + 1) p q (pre.length + k) ∧ t = (p :: r).drop k ∧ k ≤ (p :: r).length ∧ 1 ≤ k := fun {q} ey hc ha => by
    subst ey
    obtain ⟨h1, h2, h3⟩ := call_nums hs h
    obtain ⟨x, z, e1, e2, e3⟩ := two_get h1
    rw [e3] at h2
    exact ⟨q x z, 3, by rw [h2]; exact hc x z, ha _ (pre.length + 1) x z (by rw [← e1]; exact g 0) (by rw [← e2]; exact g 1), h3, by rw [List.length_cons]; omega, by omega⟩
  rcases shape_cases hs with ⟨rfl, ey⟩ | ⟨rfl, ey⟩ | ⟨rfl, ey⟩ | ⟨rfl, ey⟩ | ⟨rfl, ey⟩ | ⟨rfl, ey⟩ | ⟨rfl, ey⟩ | ⟨rfl, ey⟩ | ⟨rfl, ey⟩ | ⟨rfl, ey⟩ | ⟨rfl, ey⟩ | ⟨rfl, ey⟩ | ⟨rfl, ey⟩
  · subst ey
    obtain ⟨x, e1, e2⟩ := call_row hs h
    obtain ⟨n, r1, r2, r3, r4⟩ := row_spec e1
    refine ⟨.begin_ x, n + 2, by rw [e2]; rfl, ?_, r4, by rw [List.length_cons]; omega, by omega⟩
    have a := Args.begin_ (ns := pre ++ 0 :: r) (i := pre.length + 1) n (by rw [← r1]; exact g 0) (by rw [ln]; omega)
    rw [gd 1, ← r3] at a
    have ej : pre.length + 1 + 1 + n = pre.length + (n + 2) := by omega
    rw [ej] at a
    exact a
  · subst ey
    obtain ⟨x, e1, e2⟩ := call_row hs h
    obtain ⟨n, r1, r2, r3, r4⟩ := row_spec e1
    refine ⟨.play x, n + 2, by rw [e2]; rfl, ?_, r4, by rw [List.length_cons]; omega, by omega⟩
    have a := Args.play (ns := pre ++ 1 :: r) (i := pre.length + 1) n (by rw [← r1]; exact g 0) (by rw [ln]; omega)
    rw [gd 1, ← r3] at a
    have ej : pre.length + 1 + 1 + n = pre.length + (n + 2) := by omega
    rw [ej] at a
    exact a
  · exact one (q := .on) ey (fun _ => rfl) fun _ _ x e => .on x e
  · exact two (q := .go) ey (fun _ _ => rfl) fun _ _ x z e e2 => .go x z e e2
  · subst ey
    obtain ⟨h1, h2, h3⟩ := call_nums hs h
    exact ⟨.takes, 1, by rw [h2]; rfl, .takes, h3, by rw [List.length_cons]; omega, by omega⟩
  · exact one (q := .pads) ey (fun _ => rfl) fun _ _ x e => .pads x e
  · subst ey
    obtain ⟨h1, h2, h3⟩ := call_nums hs h
    obtain ⟨x, z, w, e1, e2, e4, e3⟩ := three_get h1
    rw [e3] at h2
    exact ⟨.put x z w, 4, by rw [h2]; rfl, .put x z w (by rw [← e1]; exact g 0) (by rw [← e2]; exact g 1) (by rw [← e4]; exact g 2), h3, by rw [List.length_cons]; omega, by omega⟩
  · exact one (q := .cut) ey (fun _ => rfl) fun _ _ x e => .cut x e
  · exact two (q := .parts) ey (fun _ _ => rfl) fun _ _ x z e e2 => .parts x z e e2
  · exact one (q := .free) ey (fun _ => rfl) fun _ _ x e => .free x e
  · subst ey
    obtain ⟨h1, h2, h3⟩ := call_nums hs h
    exact ⟨.state, 1, by rw [h2]; rfl, .state, h3, by rw [List.length_cons]; omega, by omega⟩
  · exact two (q := .patch) ey (fun _ _ => rfl) fun _ _ x z e e2 => .patch x z e e2
  · exact one (q := .strays) ey (fun _ => rfl) fun _ _ x e => .strays x e
theorem parse : ∀ (f : Nat) (l : List Int) (raw : List (List (List Int))), PyFlat.calls PyCs05.shape f l = some raw → ∀ pre : List Int, ∃ qs, (raw.map PyCs05.whole).map Cs05Neutral.callOf = qs.map some ∧ Reads (pre ++ l) pre.length qs
  | f, [], raw, h, pre => by
    have : raw = [] := by cases f <;> (injection h with h; exact h.symm)
    subst this
    refine ⟨[], rfl, ?_⟩
    rw [List.append_nil]
    exact .nil
  | 0, p :: r, raw, h, pre => by cases h
  | f + 1, p :: r, raw, h, pre => by
    unfold PyFlat.calls at h
    cases e : PyFlat.call PyCs05.shape (p :: r) with
    | none => rw [e] at h; cases h
    | some y =>
      obtain ⟨c, t⟩ := y
      rw [e] at h
      dsimp only at h
      cases e2 : PyFlat.calls PyCs05.shape f t with
      | none => rw [e2] at h; cases h
      | some cs =>
        rw [e2] at h
        have h' : some (c :: cs) = some raw := h
        injection h' with h'
        obtain ⟨q, k, hc, ha, ht, hk, _⟩ := call_spec e pre
        obtain ⟨qs, hq, hr⟩ := parse f t cs e2 (pre ++ (p :: r).take k)
        have el : pre ++ (p :: r).take k ++ t = pre ++ p :: r := by rw [ht, List.append_assoc, List.take_append_drop]
        have en : (pre ++ (p :: r).take k).length = pre.length + k := by rw [List.length_append, List.length_take]; omega
        rw [el, en] at hr
        refine ⟨q :: qs, ?_, .cons ?_ ha hr⟩
        · rw [← h', List.map_cons, List.map_cons, hc, hq]; rfl
        · have := get_app pre (p :: r) 0
          rw [Nat.add_zero] at this
          rw [this]; rfl
/-- the mirror's run is what is due -/
theorem run_due : ∀ (cs : List (List (List Int))) (qs : List Cs05.Call) (st : Cs05.St) (s : Hs), Rel st s → Good s → cs.map Cs05Neutral.callOf = qs.map some → PyFlat.told (PyFlat.played Cs05Neutral.step st cs) = run s qs
  | [], qs, st, s, r, g, h => by
    cases qs with
    | nil => rfl
    | cons q qs => cases h
  | c :: cs, qs, st, s, r, g, h => by
    cases qs with
    | nil => cases h
    | cons q qs =>
      injection h with h1 h2
      have es : Cs05Neutral.step st c = Cs05.spec st q := by unfold Cs05Neutral.step; rw [h1]
      obtain ⟨a1, a2, a3⟩ := agree r g q
      have ih := run_due cs qs _ _ a2 a3 h2
      show PyFlat.told ((Cs05Neutral.step st c).2 :: PyFlat.played Cs05Neutral.step (Cs05Neutral.step st c).1 cs) = _
      rw [es]
      show ((((Cs05.spec st q).2.length : Int) :: (Cs05.spec st q).2) ++ PyFlat.told (PyFlat.played Cs05Neutral.step (Cs05.spec st q).1 cs)) = _
      rw [ih, a1]; rfl
theorem answers_due {ns : List Int} (h : PyCs05.answers_asked ns = true) : ∃ qs, Reads ns 0 qs ∧ PyCs05.answers ns = run (fresh []) qs := by
  unfold PyCs05.answers_asked at h
  cases e : PyFlat.calls PyCs05.shape ns.length ns with
  | none => rw [e] at h; cases h
  | some raw =>
    obtain ⟨qs, hq, hr⟩ := parse _ _ _ e []
    refine ⟨qs, hr, ?_⟩
    unfold PyCs05.answers PyCs05.calls
    rw [e]
    obtain ⟨r0, g0⟩ := Rel.fresh [] (by decide) (by intro v hv; cases hv)
    exact run_due _ qs Cs05.start (fresh []) r0 g0 hq
end Tk
-- the part TkAns
set_option maxRecDepth 100000
set_option maxHeartbeats 4000000
namespace Tk
open PySem PySem.Spec PyProof.Rows L2
open CsBase (Mach byteAt put inA inX opAt rests upTo frame frames loaded told mark)

/-- if call == 0: house = do_begin(reading.next_row()); answer = [0] else: answer = answer_call(house, call, reading) -/
def tryBody (K : PySem.W.Frag) (c : Cs) (W : WX) : TS :=
  tIfS (tTest (tOp rEq (tVar 4) (tC (.int 0)))) (tSeq (tAsg (tCallS (spBegin K c) (WE W) (tCons (tMeth c.C "next_row" (spNextR K c) [] E0 (tVar 2) tNil) tNil)) (gName 1)) (tAsg (tLst (tCons (tC (.int 0)) tNil)) (gName 5)))
    (tAsg (tCallS (spCall K c) (WE W) (tCons (tVar 1) (tCons (tVar 4) (tCons (tVar 2) tNil)))) (gName 5))
/-- answer = [refusal.number] -/
def trySuite (c : Cs) : Addr → Value → Option Addr → TS := fun a cls d => tAsg (tLst (tCons (tXf a cls d c.D "number" (tVar 6)) tNil)) (gName 5)
def spAns (K : PySem.W.Frag) : Sp := fun vs H Q _ => ∃ (a : Addr) (ns : List Int), vs = [.ref a] ∧ SqL K H a (ns.map V.int) ∧ ns.length ≤ 12200 ∧ PyCs05.answers_asked ns = true ∧
  ∀ (H' : Hp) (p : Addr), H' p = some (.lst ((PyCs05.answers ns).map V.int)) → Q (.ref p) H'
/-- the list at a stands as it stood in H0, without a mark -/
def Keep (H0 : Hp) (a : Addr) (L : Addr → Option Nat) (H : Hp) : Prop := ∀ o, H0 a = some o → H a = some o ∧ L a = none
theorem Keep.seq {K : PySem.W.Frag} {H0 H : Hp} {a : Addr} {L : Addr → Option Nat} {xs : List V} (k : Keep H0 a L H) (h : SqL K H0 a xs) : SqL K H a xs := by
  rcases h with (h | ⟨o, h⟩) | h
  · exact .inl (.inl (k _ h).1)
  · exact .inl (.inr ⟨o, (k _ h).1⟩)
  · exact .inr h
theorem Ansr2.mk {c : Cs} {r : Res} {L : Addr → Option Nat} {d : Ad} {rd a : Addr} {j : Nat} {H : Hp} {Q : VK} {E : XK} (he : ∀ n, r = .error n → ∀ x H', H x = none → H' x = some (.xd [("number", .int n)]) → CAt c H' rd a j → But rd H H' → E (.ref c.D) (some x) H')
    (ho : ∀ y, r = .ok y → ∀ (H' : Hp) (L' : Addr → Option Nat) (d' : Ad) (p : Addr), d'.h = d.h → HAt c H' L' d' y.1 → (∀ b o, H b = some o → L b = none → b ≠ rd → H' b = some o ∧ L' b = none) → CAt c H' rd a j → L' rd = none → (∀ o, H p = some o → L p = none → p ≠ rd → False) → H' p = some (.lst (y.2.map V.int)) → Q (.ref p) H') : Ansr2 c r L d rd a j H Q E := by
  cases r with
  | error n => exact he n rfl
  | ok y => exact ho y rfl
theorem onMakeH {K : PySem.W.Frag} {c : Cs} {H : Hp} {a : Addr} {l : List Nat} {R : Addr → Hp → Prop} {E : XK} (hS : SqL K H a (vN l)) (hl : l.length ≤ 128) (hb : ∀ b ∈ l, b < 256)
    (k : ∀ (d : Ad) (L : Addr → Option Nat) (H2 : Hp), HAt c H2 L d (fresh l) → (∀ b o, H b = some o → H2 b = some o ∧ L b = none) → R d.h H2) :
    ∀ x dx, H x = none → H dx = none → dx ≠ x → spHInit K c (.ref x :: ([.ref a] ++ [])) (upd (upd H dx (.own x)) x (.ins c.H dx [])) (fun v H2 => v = .non ∧ R x H2) E := fun x dx nx nd ne => by
  have s0 : Same H (upd (upd H dx (.own x)) x (.ins c.H dx [])) := fun b o e => by
    rw [upd_ne (ne_of_none e nx), upd_ne (ne_of_none e nd)]; exact e
  refine ⟨x, dx, a, l, rfl, upd_same, s0.seq hS, hl, hb, fun H' d L ed hH kp => ⟨rfl, ?_⟩⟩
  subst ed
  exact k d L H' hH fun b o e => kp b o (s0 _ _ e) (ne_of_none e nx)
section
variable {P : Program} {w : World} {K : PySem.W.Frag} {mg : Str → Option Value} {base : Heap} {c : Cs}
theorem ok_answers (T : Txt K mg c) {f : Addr} {fd : FuncData} (F : Fun K "answers" "answers" s_answers f fd) : FnOk P w K mg base CX0 12 f fd ["calls"] (spAns K) := by
  refine F.ok sc_answers (fun vs H Q E h => ?_) (fun cdv A outer s H vs Q E hr h => ⟨_, (pss_cons (ps_set (i := 1) sc_answers.nd rfl (Or.inl rfl) (pc_make (c_House_init T) (hr.mono (by decide)) (by rfl) pass0 (pa_cons (pe_lst pa_nil) pa_nil))) (pss_cons (ps_set (i := 2) sc_answers.nd rfl (Or.inl rfl) (pc_make (c_Calls_init T) (hr.mono (by decide)) (by rfl) pass0 (pa_cons (pv 0) pa_nil))) (pss_cons (ps_set (i := 3) sc_answers.nd rfl (Or.inl rfl) (pe_lst pa_nil)) (pss_cons (ps_while PassesOwn.never (pt_cmpR op_lt (pe_fld (pv 2) rfl) (pe_callB call_len_seq (by rfl) T.n_len PySem.boot_len (pa_cons (pv 0) pa_nil)) (nomark _)) (pss_cons (ps_set (i := 4) sc_answers.nd rfl (Or.inl rfl) (pc_meth0 (pv 2) T.clC (c_next_number T) (hr.mono (by decide)) pass0)) (pt_cut (ps_try_as (i := 6) (tb := fun W => tryBody K c W) (ts := fun a cls d => trySuite c a cls d) (Wout := fun _ _ _ _ => False) rfl rfl sc_answers.nd rfl rfl ⟨rfl, by decide, Or.inl T.gDenied⟩ takes0 (fun W pn xe tk _ => (pss_one (ps_if (pt_cmpR op_eq (pv 4) pe_int (nomark _)) (pss_cons (ps_set (i := 1) sc_answers.nd rfl (Or.inl rfl) (pc_callS (c_do_begin T) (hr.mono (by decide)) (by rfl) (fun σ => passAt tk σ) (pa_cons (pc_meth0 (pv 2) T.clC (c_next_row T) (hr.mono (by decide)) pass0) pa_nil))) (pss_one (ps_set (i := 5) sc_answers.nd rfl (Or.inl rfl) (pe_lst (pa_cons pe_int pa_nil))))) (pss_one (ps_set (i := 5) sc_answers.nd rfl (Or.inl rfl) (pc_callS (c_answer_call T) (hr.mono (by decide)) (by rfl) (fun σ => passAt tk σ) (pa_cons (pv 1) (pa_cons (pv 4) (pa_cons (pv 2) pa_nil))))))))) (fun a oe cls d pn hz hf => (pss_one (ps_set (i := 5) sc_answers.nd rfl (Or.inl rfl) (by exact (pe_lst (pa_cons (pe_xf T.xf T.noNumber hz hf (pv 6)) pa_nil))))))) (pss_cons (ps_expr (pe_bm PySem.F.plainAttrs_list PySem.F.slot_list_append PySem.F.type_list_append mt_append (pv 3) (pa_cons (pe_callB call_len_seq (by rfl) T.n_len PySem.boot_len (pa_cons (pv 5) pa_nil)) pa_nil))) (pss_one (ps_expr (pe_bm PySem.F.plainAttrs_list PySem.F.slot_list_extend PySem.F.type_list_extend mt_extend (pv 3) (pa_cons (pv 5) pa_nil)))))))) (pss_one (ps_ret (pv 3))))))), ?_⟩)
  · obtain ⟨a, ns, rfl, _⟩ := h; rfl
  · obtain ⟨a, ns, rfl, hS0, hl, hask, kk⟩ := h
    obtain ⟨qs0, hR0, due⟩ := answers_due hask
    rw [due] at kk
    -- house = House([]); reading = Calls(calls); found = []
    refine ⟨(by show 0 ≤ sizeLine; decide), fun e0 ne0 => ?_⟩
    have s0 : Same H (upd H e0 (.lst [])) := Same.new ne0
    refine onMakeH (l := []) (SqL.of upd_same) (by decide) (by intro v hv; cases hv) fun d L H2 hH fr => ?_
    refine ⟨_, rfl, onMakeC (a := a) fun rd H3 nrd hC s3 => ?_⟩
    refine ⟨(by show 0 ≤ sizeLine; decide), fun fd nfd => ?_⟩
    have s4 : Same H3 (upd H3 fd (.lst [])) := Same.new nfd
    have k0 : ∀ o, H a = some o → H2 a = some o ∧ L a = none := fun o e => fr _ _ (s0 _ _ e)
    obtain ⟨dr0, ri0⟩ := hC
    have ard : ∀ o, H a = some o → a ≠ rd := fun o e => ne_of_none (k0 o e).1 nrd
    have afd : ∀ o, H a = some o → a ≠ fd := fun o e => ne_of_none (s3 _ _ (k0 o e).1) nfd
    have rfd : rd ≠ fd := ne_of_none ri0 nfd
    obtain ⟨L1, hH3, lr, f1⟩ := unmark hH nrd (hH.same s3)
    obtain ⟨Lb, hH4, lf, f2⟩ := unmark hH3 nfd (hH3.same s4)
    have k4 : Keep H a Lb (upd H3 fd (.lst [])) := fun o e => by
      obtain ⟨e2, l2⟩ := k0 o e
      obtain ⟨e3, l3⟩ := f1 _ _ (s3 _ _ e2) l2
      exact f2 _ _ (s4 _ _ e3) l3
    have lr2 : Lb rd = none := (f2 _ _ (s4 _ _ ri0) lr).2
    -- the loop
    let Inv : Nat → List Cs05.Call → L2.St → Hp → Prop := fun i qs σ H' => ∃ (L' : Addr → Option Nat) (d' : Ad) (s' : Hs) (st : Cs05.St) (acc : List Int) (v4 v5 : Option V), σ = [some (.ref a), some (.ref d'.h), some (.ref rd), some (.ref fd), v4, v5, none] ∧ HAt c H' L' d' s' ∧ Good s' ∧ Rel st s' ∧
      CAt c H' rd a i ∧ L' rd = none ∧ L' fd = none ∧ H' fd = some (.lst (acc.map V.int)) ∧ Keep H a L' H' ∧ Reads ns i qs ∧ acc ++ run s' qs = run (fresh []) qs0 ∧ acc.length ≤ 134 * i
    obtain ⟨rel0, g0⟩ := Rel.fresh [] (by decide) (by intro v hv; cases hv)
    refine ⟨fun m σ H' => ∃ i qs, m = ns.length - i ∧ Inv i qs σ H', ⟨ns.length, 0, qs0, rfl, Lb, d, fresh [], _, [], none, none, rfl, hH4, g0, rel0, ⟨dr0, s4 _ _ ri0⟩, lr2, lf, upd_same, k4, hR0, rfl, Nat.zero_le _⟩, ?_⟩
    rintro m σ H' ⟨i, qs, rfl, L', d', s', st, acc, v4, v5, rfl, h', g', rel', hC', lr', lf', ef, kp', hR, eq, bd⟩
    obtain ⟨dr, ri⟩ := id hC'
    have hS' := kp'.seq hS0
    refine ⟨_, rfl, rd, c.C, dr, _, _, rfl, ri, T.clC, T.noC_at, cF_at _ _, _, rfl, a, _, rfl, .inl hS', _, _, rfl, rfl, _, rfl, ?_⟩
    rw [List.length_map]
    cases hR with
    | nil =>
      refine itF (decide_eq_false (by omega)) ⟨_, rfl, ?_⟩
      have e2 : acc = run (fresh []) qs0 := by rw [← eq]; exact (List.append_nil acc).symm
      exact kk H' fd (by rw [ef, e2])
    | @cons _ j p q r hp hA hR' =>
      have il := lt_get hp
      have ij := hA.le
      have jn := hR'.le
      refine itT (decide_eq_true (by omega)) ⟨Inv j r, fun σ' H' h => ⟨ns.length - j, by omega, j, r, rfl, h⟩, ?_⟩
      -- call = reading.next_number()
      refine ⟨_, rfl, rd, dr, _, rfl, ri, cF_no_next_number _ _, rd, a, ns, i, p, rfl, hC', hS', hp, fun H1 hC1 b1 => ?_⟩
      have h1 := h'.but lr' b1
      have ef1 : H1 fd = some (.lst (acc.map V.int)) := b1 _ _ ef rfd.symm
      have kp1 : Keep H a L' H1 := fun o e => ⟨b1 _ _ (kp' o e).1 (ard o e), (kp' o e).2⟩
      have hS1 := kp1.seq hS0
      obtain ⟨ag1, ag2, ag3⟩ := agree rel' g' q
      have aln := mcall_len g' q
      refine ⟨fun σ2 H2 => ∃ (Lb : Addr → Option Nat) (d2 : Ad) (z : Addr), σ2 = [some (.ref a), some (.ref d2.h), some (.ref rd), some (.ref fd), some (.int p), some (.ref z), none] ∧ HAt c H2 Lb d2 (res s' (mcall s' q)).1 ∧ CAt c H2 rd a j ∧ Lb rd = none ∧ Lb fd = none ∧
        H2 fd = some (.lst (acc.map V.int)) ∧ Keep H a Lb H2 ∧ H2 z = some (.lst ((res s' (mcall s' q)).2.map V.int)) ∧ z ≠ fd, ?_, ?_⟩
      · -- a refusal: answer = [refusal.number]
        have refused : ∀ (n : Int) (σ0 : L2.St) (x : Addr) (H2 : Hp), mcall s' q = .error n → σ0 = [some (.ref a), some (.ref d'.h), some (.ref rd), some (.ref fd), some (.int p), v5, none] → H1 x = none → H2 x = some (.xd [("number", .int n)]) → CAt c H2 rd a j → But rd H1 H2 →
            ∀ (Mid : L2.St → Hp → Prop), (∀ z H3, H2 z = none → Same H2 H3 → H3 z = some (.lst [V.int n]) → Mid [some (.ref a), some (.ref d'.h), some (.ref rd), some (.ref fd), some (.int p), some (.ref z), none] H3) → ∀ (rt : VK) (bk ct : L2.St → Hp → Prop),
            wAs K (.ref c.D) 6 (fun a cls d => trySuite c a cls d) (fun _ _ _ _ => False) { nx := Mid, rt := rt, bk := bk, ct := ct } (.ref c.D) (some x) σ0 H2 := fun n σ0 x H2 em eσ nx ex hC2 b2 Mid hm rt bk ct => by
          subst eσ
          refine ⟨true, T.eDenied, fun _ a0 _ => ?_, fun z => Bool.noConfusion z⟩
          refine ⟨_, rfl, rfl, rfl, x, _, _, rfl, ex, lk_here, (by show 1 ≤ sizeLine; decide), fun z nz => ?_⟩
          exact hm z _ nz (Same.new nz) upd_same
        have mid : ∀ (n : Int) (x : Addr) (H2 : Hp), mcall s' q = .error n → H1 x = none → H2 x = some (.xd [("number", .int n)]) → CAt c H2 rd a j → But rd H1 H2 → ∀ z H3, H2 z = none → Same H2 H3 → H3 z = some (.lst [V.int n]) →
            ∃ (Lb : Addr → Option Nat) (d2 : Ad) (z' : Addr), [some (V.ref a), some (V.ref d'.h), some (V.ref rd), some (V.ref fd), some (V.int p), some (V.ref z), none] = [some (V.ref a), some (V.ref d2.h), some (V.ref rd), some (V.ref fd), some (V.int p), some (V.ref z'), none] ∧ HAt c H3 Lb d2 (res s' (mcall s' q)).1 ∧ CAt c H3 rd a j ∧ Lb rd = none ∧ Lb fd = none ∧
              H3 fd = some (.lst (acc.map V.int)) ∧ Keep H a Lb H3 ∧ H3 z' = some (.lst ((res s' (mcall s' q)).2.map V.int)) ∧ z' ≠ fd := fun n x H2 em nx ex hC2 b2 z H3 nz s3 ez => by
          have ef2 : H2 fd = some (.lst (acc.map V.int)) := b2 _ _ ef1 rfd.symm
          refine ⟨L', d', z, rfl, ?_, hC2.same s3, lr', lf', s3 _ _ ef2, fun o e => ⟨s3 _ _ (b2 _ _ (kp1 o e).1 (ard o e)), (kp1 o e).2⟩, ?_, (ne_of_none ef2 nz).symm⟩
          · rw [em]; exact (h1.but lr' b2).same s3
          · rw [em]; exact ez
        by_cases p0 : p = 0
        · subst p0
          refine ⟨_, rfl, rfl, _, rfl, itT (by decide) ?_⟩
          cases hA with
          | begin_ n hz hn =>
            obtain ⟨dr1, ri1⟩ := id hC1
            refine ⟨_, rfl, rd, dr1, _, rfl, ri1, cF_no_next_row _ _, rd, a, ns, i + 1, n, rfl, hC1, hS1, hz, hn, fun H2 pr hC2 b2 npr epr => ?_⟩
            obtain ⟨dr2, ri2⟩ := id hC2
            refine ⟨pr, _, rfl, SqL.of epr, (by rw [List.length_take, List.length_drop]; omega), fun ok H3 L3 d3 h3 fr3 => ?_, fun no x H3 nx ex s3 => ?_⟩
            · -- answer = [0]
              have em : mcall s' (.begin_ ((ns.drop (i + 1 + 1)).take n)) = .ok (fresh (((ns.drop (i + 1 + 1)).take n).map Int.toNat), [0]) := if_pos ok
              refine ⟨(by show 1 ≤ sizeLine; decide), fun z nz => ?_⟩
              have s4 : Same H3 (upd H3 z (.lst [V.int 0])) := Same.new nz
              obtain ⟨er, lrr⟩ := fr3 _ _ ri2
              have ef2 : H2 fd = some (.lst (acc.map V.int)) := b2 _ _ ef1 rfd.symm
              obtain ⟨ef3, lff⟩ := fr3 _ _ ef2
              refine ⟨L3, d3, z, rfl, ?_, ⟨dr2, s4 _ _ er⟩, lrr, lff, s4 _ _ ef3, fun o e => ?_, ?_, (ne_of_none ef3 nz).symm⟩
              · rw [em]; exact h3.same s4
              · obtain ⟨e3, l3⟩ := fr3 _ _ (b2 _ _ (kp1 o e).1 (ard o e))
                exact ⟨s4 _ _ e3, l3⟩
              · rw [em]; exact upd_same
            · have em : mcall s' (.begin_ ((ns.drop (i + 1 + 1)).take n)) = .error (-1) := if_neg no
              have nx1 : H1 x = none := but_free b2 (by rw [ri2]; exact fun z => by cases z) nx
              exact refused (-1) _ x H3 em rfl nx1 ex (hC2.same s3) (b2.trans (But.same s3)) _ (mid (-1) x H3 em nx1 ex (hC2.same s3) (b2.trans (But.same s3))) _ _ _
        · refine ⟨_, rfl, rfl, _, rfl, itF (decide_eq_false fun z => p0 (by injection z)) ?_⟩
          refine ⟨_, rfl, _, rfl, _, rfl, L', d', s', rd, a, ns, i + 1, p, q, j, rfl, h1, g', hC1, lr', hS1, hA, p0, (by omega), ?_⟩
          refine Ansr2.mk (fun n em x H2 nx ex hC2 b2 => refused n _ x H2 em rfl nx ex hC2 b2 _ (mid n x H2 em nx ex hC2 b2) _ _ _) (fun y em H2 Lb d2 z ed h2 f2 hC2 lr2 nw ez => ?_)
          · obtain ⟨ef2, lf2⟩ := f2 _ _ ef1 lf' rfd.symm
            refine ⟨Lb, d2, z, by rw [ed]; rfl, ?_, hC2, lr2, lf2, ef2, fun o e => f2 _ _ (kp1 o e).1 (kp1 o e).2 (ard o e), ?_, fun e => ?_⟩
            · rw [em]; exact h2
            · rw [em]; exact ez
            · subst e; exact nw _ ef1 lf' rfd.symm
      · -- found.append(len(answer)); found.extend(answer)
        rintro σ2 H2 ⟨L3, d2, z, rfl, h2, hC2, lr2, lf2, ef2, kp2, ez, zf⟩
        have bda : acc.length + 200 ≤ sizeLine := Nat.le_trans (show acc.length + 200 ≤ 2000000 by omega) (by decide)
        have bda' : acc.length < sizeLine := Nat.lt_of_lt_of_le (show acc.length < acc.length + 200 by omega) bda
        obtain ⟨ans, ea⟩ : ∃ ans, ans = (res s' (mcall s' q)).2 := ⟨_, rfl⟩
        rw [← ea] at ez aln
        refine ⟨_, rfl, .inl ⟨rfl, _, SqL.of ef2⟩, _, rfl, z, _, rfl, .inl (SqL.of ez), fd, _, _, rfl, rfl, ef2, (by rw [List.length_map]; exact bda'), ?_⟩
        rw [List.length_map]
        have ez3 : (upd H2 fd (.lst (acc.map V.int ++ [V.int (ans.length : Int)]))) z = some (.lst (ans.map V.int)) := by rw [upd_ne zf]; exact ez
        have keepU : ∀ {H3 : Hp} {o3 : HO} {b : Addr} {o : HO}, H3 b = some o → b ≠ fd → (upd H3 fd o3) b = some o := fun {H3 o3 b o} e ne => by rw [upd_ne ne]; exact e
        refine ⟨_, rfl, .inl ⟨rfl, _, SqL.of upd_same⟩, _, rfl, fd, z, _, _, rfl, rfl, upd_same, ez3, ?_, ?_⟩
        · rw [List.length_append, List.length_map, List.length_map]
          exact Nat.le_trans (show acc.length + 1 + ans.length ≤ acc.length + 200 by omega) bda
        · have bf : But fd H2 (upd (upd H2 fd (.lst (acc.map V.int ++ [V.int (ans.length : Int)]))) fd (.lst (acc.map V.int ++ [V.int (ans.length : Int)] ++ ans.map V.int))) := But.upd.trans But.upd
          obtain ⟨dr2, ri2⟩ := hC2
          refine ⟨L3, d2, (res s' (mcall s' q)).1, _, acc ++ ((ans.length : Int) :: ans), some (.int p), some (.ref z), rfl, h2.but lf2 bf, ag3, ag2, ⟨dr2, bf _ _ ri2 rfd⟩, lr2, lf2, ?_, fun o e => ⟨bf _ _ (kp2 o e).1 (afd o e), (kp2 o e).2⟩, hR', ?_, ?_⟩
          · rw [upd_same, List.map_append, List.map_cons, List.append_assoc]; rfl
          · rw [← eq, ea, List.append_assoc]; rfl
          · rw [List.length_append, List.length_cons]
            omega
end
end Tk
-- the part TkEnd
set_option maxRecDepth 100000
set_option maxHeartbeats 4000000
namespace Tk
open PySem PySem.Spec PyProof.Rows L2
/-- an error of the class at S is what «except S» names -/
theorem exm_self {K : PySem.W.Frag} {S : Addr} (h1 : PySem.W.subIn K (.ref S) (.type "BaseException") = some true) (h2 : PySem.W.isClsIn K S = true) (h3 : PySem.W.typeIn K (.ref S) = some (.type "type")) (h4 : PySem.W.subIn K (.ref S) (.ref S) = some true) :
    PySem.W.exmOne K (.ref S) (.ref S) = some true := by
  have e1 : (PySem.W.subIn K (.ref S) (.type "BaseException") == some true) = true := by rw [h1] <;> rfl
  have e2 : ((PySem.W.clsIn K S).isSome && PySem.W.typeIn K (.ref S) == some (.type "type")) = true := by
    have h2' : (PySem.W.clsIn K S).isSome = true := h2
    rw [h2', h3] <;> rfl
  show (if (PySem.W.subIn K (.ref S) (.type "BaseException") == some true) = true then (if ((PySem.W.clsIn K S).isSome && PySem.W.typeIn K (.ref S) == some (.type "type")) = true then PySem.W.subIn K (.ref S) (.ref S) else none) else none) = some true
  rw [if_pos e1, if_pos e2]
  exact h4
theorem all_mk {P : Program} {w : World} {K : PySem.W.Frag} {h : Heap} {mg : Str → Option Value} {fa CM CT CH CD CC f_Machine_init f_Take_init f_House_init f_Calls_init f_next_number f_next_row f_Denied_init f_copied f_byte_at f_set_byte f_set_a f_set_x f_add_or_take f_move f_jumps f_do_one f_run_frame f_as_numbers f_mark_of f_are_alike f_machine_ahead f_go_to f_play_on f_play_pad f_first_difference f_first_unlike f_count_free f_first_stray f_need f_are_bytes f_take_of f_where f_need_room f_play_all f_do_begin f_do_play f_do_on f_do_go f_do_takes f_do_pads f_do_put f_need_frame f_do_cut f_do_parts f_do_free f_do_patch f_do_strays f_call_of_one f_answer_call f_answers : Addr} (X : K.In h) (G : h.Ns mainGlobals mg) (hfa : mg "answers" = some (.ref fa))
    {od_Machine_init an_Machine_init od_Take_init an_Take_init od_House_init an_House_init od_Calls_init an_Calls_init od_next_number an_next_number od_next_row an_next_row od_Denied_init an_Denied_init od_copied an_copied od_byte_at an_byte_at od_set_byte an_set_byte od_set_a an_set_a od_set_x an_set_x od_add_or_take an_add_or_take od_move an_move od_jumps an_jumps od_do_one an_do_one od_run_frame an_run_frame od_as_numbers an_as_numbers od_mark_of an_mark_of od_are_alike an_are_alike od_machine_ahead an_machine_ahead od_go_to an_go_to od_play_on an_play_on od_play_pad an_play_pad od_first_difference an_first_difference od_first_unlike an_first_unlike od_count_free an_count_free od_first_stray an_first_stray od_need an_need od_are_bytes an_are_bytes od_take_of an_take_of od_where an_where od_need_room an_need_room od_play_all an_play_all od_do_begin an_do_begin od_do_play an_do_play od_do_on an_do_on od_do_go an_do_go od_do_takes an_do_takes od_do_pads an_do_pads od_do_put an_do_put od_need_frame an_need_frame od_do_cut an_do_cut od_do_parts an_do_parts od_do_free an_do_free od_do_patch an_do_patch od_do_strays an_do_strays od_call_of_one an_call_of_one od_answer_call an_answer_call od_answers an_answers : Option Addr} {sl_Machine_init sl_Take_init sl_House_init sl_Calls_init sl_next_number sl_next_row sl_Denied_init sl_copied sl_byte_at sl_set_byte sl_set_a sl_set_x sl_add_or_take sl_move sl_jumps sl_do_one sl_run_frame sl_as_numbers sl_mark_of sl_are_alike sl_machine_ahead sl_go_to sl_play_on sl_play_pad sl_first_difference sl_first_unlike sl_count_free sl_first_stray sl_need sl_are_bytes sl_take_of sl_where sl_need_room sl_play_all sl_do_begin sl_do_play sl_do_on sl_do_go sl_do_takes sl_do_pads sl_do_put sl_need_frame sl_do_cut sl_do_parts sl_do_free sl_do_patch sl_do_strays sl_call_of_one sl_answer_call sl_answers : Array (Option Value)} {oc_Machine_init kV_Machine_init dc_Machine_init pm_Machine_init cd_Machine_init ct_Machine_init oc_Take_init kV_Take_init dc_Take_init pm_Take_init cd_Take_init ct_Take_init oc_House_init kV_House_init dc_House_init pm_House_init cd_House_init ct_House_init oc_Calls_init kV_Calls_init dc_Calls_init pm_Calls_init cd_Calls_init ct_Calls_init oc_next_number kV_next_number dc_next_number pm_next_number cd_next_number ct_next_number oc_next_row kV_next_row dc_next_row pm_next_row cd_next_row ct_next_row oc_Denied_init kV_Denied_init dc_Denied_init pm_Denied_init cd_Denied_init ct_Denied_init oc_copied kV_copied dc_copied pm_copied cd_copied ct_copied oc_byte_at kV_byte_at dc_byte_at pm_byte_at cd_byte_at ct_byte_at oc_set_byte kV_set_byte dc_set_byte pm_set_byte cd_set_byte ct_set_byte oc_set_a kV_set_a dc_set_a pm_set_a cd_set_a ct_set_a oc_set_x kV_set_x dc_set_x pm_set_x cd_set_x ct_set_x oc_add_or_take kV_add_or_take dc_add_or_take pm_add_or_take cd_add_or_take ct_add_or_take oc_move kV_move dc_move pm_move cd_move ct_move oc_jumps kV_jumps dc_jumps pm_jumps cd_jumps ct_jumps oc_do_one kV_do_one dc_do_one pm_do_one cd_do_one ct_do_one oc_run_frame kV_run_frame dc_run_frame pm_run_frame cd_run_frame ct_run_frame oc_as_numbers kV_as_numbers dc_as_numbers pm_as_numbers cd_as_numbers ct_as_numbers oc_mark_of kV_mark_of dc_mark_of pm_mark_of cd_mark_of ct_mark_of oc_are_alike kV_are_alike dc_are_alike pm_are_alike cd_are_alike ct_are_alike oc_machine_ahead kV_machine_ahead dc_machine_ahead pm_machine_ahead cd_machine_ahead ct_machine_ahead oc_go_to kV_go_to dc_go_to pm_go_to cd_go_to ct_go_to oc_play_on kV_play_on dc_play_on pm_play_on cd_play_on ct_play_on oc_play_pad kV_play_pad dc_play_pad pm_play_pad cd_play_pad ct_play_pad oc_first_difference kV_first_difference dc_first_difference pm_first_difference cd_first_difference ct_first_difference oc_first_unlike kV_first_unlike dc_first_unlike pm_first_unlike cd_first_unlike ct_first_unlike oc_count_free kV_count_free dc_count_free pm_count_free cd_count_free ct_count_free oc_first_stray kV_first_stray dc_first_stray pm_first_stray cd_first_stray ct_first_stray oc_need kV_need dc_need pm_need cd_need ct_need oc_are_bytes kV_are_bytes dc_are_bytes pm_are_bytes cd_are_bytes ct_are_bytes oc_take_of kV_take_of dc_take_of pm_take_of cd_take_of ct_take_of oc_where kV_where dc_where pm_where cd_where ct_where oc_need_room kV_need_room dc_need_room pm_need_room cd_need_room ct_need_room oc_play_all kV_play_all dc_play_all pm_play_all cd_play_all ct_play_all oc_do_begin kV_do_begin dc_do_begin pm_do_begin cd_do_begin ct_do_begin oc_do_play kV_do_play dc_do_play pm_do_play cd_do_play ct_do_play oc_do_on kV_do_on dc_do_on pm_do_on cd_do_on ct_do_on oc_do_go kV_do_go dc_do_go pm_do_go cd_do_go ct_do_go oc_do_takes kV_do_takes dc_do_takes pm_do_takes cd_do_takes ct_do_takes oc_do_pads kV_do_pads dc_do_pads pm_do_pads cd_do_pads ct_do_pads oc_do_put kV_do_put dc_do_put pm_do_put cd_do_put ct_do_put oc_need_frame kV_need_frame dc_need_frame pm_need_frame cd_need_frame ct_need_frame oc_do_cut kV_do_cut dc_do_cut pm_do_cut cd_do_cut ct_do_cut oc_do_parts kV_do_parts dc_do_parts pm_do_parts cd_do_parts ct_do_parts oc_do_free kV_do_free dc_do_free pm_do_free cd_do_free ct_do_free oc_do_patch kV_do_patch dc_do_patch pm_do_patch cd_do_patch ct_do_patch oc_do_strays kV_do_strays dc_do_strays pm_do_strays cd_do_strays ct_do_strays oc_call_of_one kV_call_of_one dc_call_of_one pm_call_of_one cd_call_of_one ct_call_of_one oc_answer_call kV_answer_call dc_answer_call pm_answer_call cd_answer_call ct_answer_call oc_answers kV_answers dc_answers pm_answers cd_answers ct_answers : Value}
    (g_PLACES : ∃ t, PySem.W.nsIn K mainGlobals "PLACES" = some (some (.int 128 t)))
    (g_PAD_PLACE : ∃ t, PySem.W.nsIn K mainGlobals "PAD_PLACE" = some (some (.int 127 t)))
    (g_MOST_DONE : ∃ t, PySem.W.nsIn K mainGlobals "MOST_DONE" = some (some (.int 300 t)))
    (g_MARK_TIMES : ∃ t, PySem.W.nsIn K mainGlobals "MARK_TIMES" = some (some (.int 31 t)))
    (g_MARK_MORE : ∃ t, PySem.W.nsIn K mainGlobals "MARK_MORE" = some (some (.int 7 t)))
    (g_MARK_REST : ∃ t, PySem.W.nsIn K mainGlobals "MARK_REST" = some (some (.int 65521 t)))
    (g_MOST_BYTES : ∃ t, PySem.W.nsIn K mainGlobals "MOST_BYTES" = some (some (.int 128 t)))
    (g_MOST_FRAMES : ∃ t, PySem.W.nsIn K mainGlobals "MOST_FRAMES" = some (some (.int 60 t)))
    (g_MOST_TAKES : ∃ t, PySem.W.nsIn K mainGlobals "MOST_TAKES" = some (some (.int 12 t)))
    (n_len : PySem.W.nsIn K mainGlobals "len" = some none)
    (n_list : PySem.W.nsIn K mainGlobals "list" = some none)
    (n_all : PySem.W.nsIn K mainGlobals "all" = some none)
    (n_min : PySem.W.nsIn K mainGlobals "min" = some none)
    (n_range : PySem.W.nsIn K mainGlobals "range" = some none)
    (n_zip : PySem.W.nsIn K mainGlobals "zip" = some none)
    (n_enumerate : PySem.W.nsIn K mainGlobals "enumerate" = some none)
    (n_Exception : PySem.W.nsIn K mainGlobals "Exception" = some none)
    (aM : PySem.W.nsIn K mainGlobals "Machine" = some (some (.ref CM)))
    (pgM : PySem.W.plainGet K CM Str.empty = true)
    (hdM : PySem.W.hasDictIn K CM = true)
    (poM : PySem.W.plainOver K CM = true)
    (saM : PySem.W.findIn K (.ref CM) "__setattr__" = some (some (.builtin "object.__setattr__")))
    (mkM : PySem.W.makesIn K CM = true)
    (kcM : PySem.W.keepIn K (.ref CM) = true)
    (noM_content : PySem.W.findIn K (.ref CM) "content" = some none)
    (noM_a : PySem.W.findIn K (.ref CM) "a" = some none)
    (noM_x : PySem.W.findIn K (.ref CM) "x" = some none)
    (noM_place : PySem.W.findIn K (.ref CM) "place" = some none)
    (noM_z : PySem.W.findIn K (.ref CM) "z" = some none)
    (noM_c : PySem.W.findIn K (.ref CM) "c" = some none)
    (a_Machine_init : PySem.W.findIn K (.ref CM) "__init__" = some (some (.ref f_Machine_init)))
    (i_Machine_init : PySem.W.isFn K (.ref f_Machine_init) = true)
    (l_Machine_init : K.lookup f_Machine_init = some ⟨oc_Machine_init, od_Machine_init, .func (PySem.W.fnOf "__init__" "Machine.__init__" (defArgs s_Machine_init) (defBody s_Machine_init) (defScope s_Machine_init) .none kV_Machine_init dc_Machine_init pm_Machine_init an_Machine_init cd_Machine_init ct_Machine_init), sl_Machine_init⟩)
    (c_Machine_init : PySem.W.codeIn K cd_Machine_init "Machine.__init__" = true)
    (q_Machine_init : PySem.W.keepIn K (.ref f_Machine_init) = true)
    (aT : PySem.W.nsIn K mainGlobals "Take" = some (some (.ref CT)))
    (pgT : PySem.W.plainGet K CT Str.empty = true)
    (hdT : PySem.W.hasDictIn K CT = true)
    (poT : PySem.W.plainOver K CT = true)
    (saT : PySem.W.findIn K (.ref CT) "__setattr__" = some (some (.builtin "object.__setattr__")))
    (mkT : PySem.W.makesIn K CT = true)
    (kcT : PySem.W.keepIn K (.ref CT) = true)
    (noT_parent : PySem.W.findIn K (.ref CT) "parent" = some none)
    (noT_ahead : PySem.W.findIn K (.ref CT) "ahead" = some none)
    (noT_pads : PySem.W.findIn K (.ref CT) "pads" = some none)
    (noT_marks : PySem.W.findIn K (.ref CT) "marks" = some none)
    (a_Take_init : PySem.W.findIn K (.ref CT) "__init__" = some (some (.ref f_Take_init)))
    (i_Take_init : PySem.W.isFn K (.ref f_Take_init) = true)
    (l_Take_init : K.lookup f_Take_init = some ⟨oc_Take_init, od_Take_init, .func (PySem.W.fnOf "__init__" "Take.__init__" (defArgs s_Take_init) (defBody s_Take_init) (defScope s_Take_init) .none kV_Take_init dc_Take_init pm_Take_init an_Take_init cd_Take_init ct_Take_init), sl_Take_init⟩)
    (c_Take_init : PySem.W.codeIn K cd_Take_init "Take.__init__" = true)
    (q_Take_init : PySem.W.keepIn K (.ref f_Take_init) = true)
    (aH : PySem.W.nsIn K mainGlobals "House" = some (some (.ref CH)))
    (pgH : PySem.W.plainGet K CH Str.empty = true)
    (hdH : PySem.W.hasDictIn K CH = true)
    (poH : PySem.W.plainOver K CH = true)
    (saH : PySem.W.findIn K (.ref CH) "__setattr__" = some (some (.builtin "object.__setattr__")))
    (mkH : PySem.W.makesIn K CH = true)
    (kcH : PySem.W.keepIn K (.ref CH) = true)
    (noH_loaded : PySem.W.findIn K (.ref CH) "loaded" = some none)
    (noH_takes : PySem.W.findIn K (.ref CH) "takes" = some none)
    (noH_here : PySem.W.findIn K (.ref CH) "here" = some none)
    (noH_played : PySem.W.findIn K (.ref CH) "played" = some none)
    (noH_machine : PySem.W.findIn K (.ref CH) "machine" = some none)
    (a_House_init : PySem.W.findIn K (.ref CH) "__init__" = some (some (.ref f_House_init)))
    (i_House_init : PySem.W.isFn K (.ref f_House_init) = true)
    (l_House_init : K.lookup f_House_init = some ⟨oc_House_init, od_House_init, .func (PySem.W.fnOf "__init__" "House.__init__" (defArgs s_House_init) (defBody s_House_init) (defScope s_House_init) .none kV_House_init dc_House_init pm_House_init an_House_init cd_House_init ct_House_init), sl_House_init⟩)
    (c_House_init : PySem.W.codeIn K cd_House_init "House.__init__" = true)
    (q_House_init : PySem.W.keepIn K (.ref f_House_init) = true)
    (aC : PySem.W.nsIn K mainGlobals "Calls" = some (some (.ref CC)))
    (pgC : PySem.W.plainGet K CC Str.empty = true)
    (hdC : PySem.W.hasDictIn K CC = true)
    (poC : PySem.W.plainOver K CC = true)
    (saC : PySem.W.findIn K (.ref CC) "__setattr__" = some (some (.builtin "object.__setattr__")))
    (mkC : PySem.W.makesIn K CC = true)
    (kcC : PySem.W.keepIn K (.ref CC) = true)
    (noC_numbers : PySem.W.findIn K (.ref CC) "numbers" = some none)
    (noC_at : PySem.W.findIn K (.ref CC) "at" = some none)
    (a_Calls_init : PySem.W.findIn K (.ref CC) "__init__" = some (some (.ref f_Calls_init)))
    (i_Calls_init : PySem.W.isFn K (.ref f_Calls_init) = true)
    (l_Calls_init : K.lookup f_Calls_init = some ⟨oc_Calls_init, od_Calls_init, .func (PySem.W.fnOf "__init__" "Calls.__init__" (defArgs s_Calls_init) (defBody s_Calls_init) (defScope s_Calls_init) .none kV_Calls_init dc_Calls_init pm_Calls_init an_Calls_init cd_Calls_init ct_Calls_init), sl_Calls_init⟩)
    (c_Calls_init : PySem.W.codeIn K cd_Calls_init "Calls.__init__" = true)
    (q_Calls_init : PySem.W.keepIn K (.ref f_Calls_init) = true)
    (a_next_number : PySem.W.findIn K (.ref CC) "next_number" = some (some (.ref f_next_number)))
    (i_next_number : PySem.W.isFn K (.ref f_next_number) = true)
    (l_next_number : K.lookup f_next_number = some ⟨oc_next_number, od_next_number, .func (PySem.W.fnOf "next_number" "Calls.next_number" (defArgs s_next_number) (defBody s_next_number) (defScope s_next_number) .none kV_next_number dc_next_number pm_next_number an_next_number cd_next_number ct_next_number), sl_next_number⟩)
    (c_next_number : PySem.W.codeIn K cd_next_number "Calls.next_number" = true)
    (q_next_number : PySem.W.keepIn K (.ref f_next_number) = true)
    (a_next_row : PySem.W.findIn K (.ref CC) "next_row" = some (some (.ref f_next_row)))
    (i_next_row : PySem.W.isFn K (.ref f_next_row) = true)
    (l_next_row : K.lookup f_next_row = some ⟨oc_next_row, od_next_row, .func (PySem.W.fnOf "next_row" "Calls.next_row" (defArgs s_next_row) (defBody s_next_row) (defScope s_next_row) .none kV_next_row dc_next_row pm_next_row an_next_row cd_next_row ct_next_row), sl_next_row⟩)
    (c_next_row : PySem.W.codeIn K cd_next_row "Calls.next_row" = true)
    (q_next_row : PySem.W.keepIn K (.ref f_next_row) = true)
    (aD : PySem.W.nsIn K mainGlobals "Denied" = some (some (.ref CD)))
    {nmD qD : Str} {ND : Addr} {bsD : List Value} {snD : List Str} {subD : List Value} {abD : Bool} {colD : Option Bool} {ddD : Option Addr} {m0 m1 m2 m3 m5 : Option Value}
    (xD : K.lookup CD = some (excClassObj nmD qD CD ND bsD PySem.ESX.exTail true snD subD abD colD ddD m0 m1 m2 m3 m5 "Exception.__new__"))
    (saD : PySem.W.findIn K (.ref CD) "__setattr__" = some (some (.builtin "object.__setattr__")))
    (eD : PySem.W.subIn K (.ref CD) (.type "BaseException") = some true)
    (tD : PySem.W.typeIn K (.ref CD) = some (.type "type"))
    (kD : PySem.W.keepIn K (.ref CD) = true)
    (gaD : PySem.W.findIn K (.ref CD) "__getattribute__" = some (some (.builtin "BaseException.__getattribute__")))
    (ggD : PySem.W.findIn K (.ref CD) "__getattr__" = some none)
    (hdD : PySem.W.hasDictIn K CD = true)
    (nnD : PySem.W.findIn K (.ref CD) "number" = some none)
    (iD : PySem.W.isClsIn K CD = true)
    (sD : PySem.W.subIn K (.ref CD) (.ref CD) = some true)
    (a_Denied_init : PySem.W.findIn K (.ref CD) "__init__" = some (some (.ref f_Denied_init)))
    (t_Denied_init : PySem.W.typeIn K (.ref f_Denied_init) = some (.type "function"))
    (l_Denied_init : K.lookup f_Denied_init = some ⟨oc_Denied_init, od_Denied_init, .func (PySem.W.fnOf "__init__" "Denied.__init__" (defArgs s_Denied_init) (defBody s_Denied_init) (defScope s_Denied_init) .none kV_Denied_init dc_Denied_init pm_Denied_init an_Denied_init cd_Denied_init ct_Denied_init), sl_Denied_init⟩)
    (c_Denied_init : PySem.W.codeIn K cd_Denied_init "Denied.__init__" = true)
    (q_Denied_init : PySem.W.keepIn K (.ref f_Denied_init) = true)
    (a_copied : PySem.W.nsIn K mainGlobals "copied" = some (some (.ref f_copied)))
    (l_copied : K.lookup f_copied = some ⟨oc_copied, od_copied, .func (PySem.W.fnOf "copied" "copied" (defArgs s_copied) (defBody s_copied) (defScope s_copied) .none kV_copied dc_copied pm_copied an_copied cd_copied ct_copied), sl_copied⟩)
    (c_copied : PySem.W.codeIn K cd_copied "copied" = true)
    (q_copied : PySem.W.keepIn K (.ref f_copied) = true)
    (a_byte_at : PySem.W.nsIn K mainGlobals "byte_at" = some (some (.ref f_byte_at)))
    (l_byte_at : K.lookup f_byte_at = some ⟨oc_byte_at, od_byte_at, .func (PySem.W.fnOf "byte_at" "byte_at" (defArgs s_byte_at) (defBody s_byte_at) (defScope s_byte_at) .none kV_byte_at dc_byte_at pm_byte_at an_byte_at cd_byte_at ct_byte_at), sl_byte_at⟩)
    (c_byte_at : PySem.W.codeIn K cd_byte_at "byte_at" = true)
    (q_byte_at : PySem.W.keepIn K (.ref f_byte_at) = true)
    (a_set_byte : PySem.W.nsIn K mainGlobals "set_byte" = some (some (.ref f_set_byte)))
    (l_set_byte : K.lookup f_set_byte = some ⟨oc_set_byte, od_set_byte, .func (PySem.W.fnOf "set_byte" "set_byte" (defArgs s_set_byte) (defBody s_set_byte) (defScope s_set_byte) .none kV_set_byte dc_set_byte pm_set_byte an_set_byte cd_set_byte ct_set_byte), sl_set_byte⟩)
    (c_set_byte : PySem.W.codeIn K cd_set_byte "set_byte" = true)
    (q_set_byte : PySem.W.keepIn K (.ref f_set_byte) = true)
    (a_set_a : PySem.W.nsIn K mainGlobals "set_a" = some (some (.ref f_set_a)))
    (l_set_a : K.lookup f_set_a = some ⟨oc_set_a, od_set_a, .func (PySem.W.fnOf "set_a" "set_a" (defArgs s_set_a) (defBody s_set_a) (defScope s_set_a) .none kV_set_a dc_set_a pm_set_a an_set_a cd_set_a ct_set_a), sl_set_a⟩)
    (c_set_a : PySem.W.codeIn K cd_set_a "set_a" = true)
    (q_set_a : PySem.W.keepIn K (.ref f_set_a) = true)
    (a_set_x : PySem.W.nsIn K mainGlobals "set_x" = some (some (.ref f_set_x)))
    (l_set_x : K.lookup f_set_x = some ⟨oc_set_x, od_set_x, .func (PySem.W.fnOf "set_x" "set_x" (defArgs s_set_x) (defBody s_set_x) (defScope s_set_x) .none kV_set_x dc_set_x pm_set_x an_set_x cd_set_x ct_set_x), sl_set_x⟩)
    (c_set_x : PySem.W.codeIn K cd_set_x "set_x" = true)
    (q_set_x : PySem.W.keepIn K (.ref f_set_x) = true)
    (a_add_or_take : PySem.W.nsIn K mainGlobals "add_or_take" = some (some (.ref f_add_or_take)))
    (l_add_or_take : K.lookup f_add_or_take = some ⟨oc_add_or_take, od_add_or_take, .func (PySem.W.fnOf "add_or_take" "add_or_take" (defArgs s_add_or_take) (defBody s_add_or_take) (defScope s_add_or_take) .none kV_add_or_take dc_add_or_take pm_add_or_take an_add_or_take cd_add_or_take ct_add_or_take), sl_add_or_take⟩)
    (c_add_or_take : PySem.W.codeIn K cd_add_or_take "add_or_take" = true)
    (q_add_or_take : PySem.W.keepIn K (.ref f_add_or_take) = true)
    (a_move : PySem.W.nsIn K mainGlobals "move" = some (some (.ref f_move)))
    (l_move : K.lookup f_move = some ⟨oc_move, od_move, .func (PySem.W.fnOf "move" "move" (defArgs s_move) (defBody s_move) (defScope s_move) .none kV_move dc_move pm_move an_move cd_move ct_move), sl_move⟩)
    (c_move : PySem.W.codeIn K cd_move "move" = true)
    (q_move : PySem.W.keepIn K (.ref f_move) = true)
    (a_jumps : PySem.W.nsIn K mainGlobals "jumps" = some (some (.ref f_jumps)))
    (l_jumps : K.lookup f_jumps = some ⟨oc_jumps, od_jumps, .func (PySem.W.fnOf "jumps" "jumps" (defArgs s_jumps) (defBody s_jumps) (defScope s_jumps) .none kV_jumps dc_jumps pm_jumps an_jumps cd_jumps ct_jumps), sl_jumps⟩)
    (c_jumps : PySem.W.codeIn K cd_jumps "jumps" = true)
    (q_jumps : PySem.W.keepIn K (.ref f_jumps) = true)
    (a_do_one : PySem.W.nsIn K mainGlobals "do_one" = some (some (.ref f_do_one)))
    (l_do_one : K.lookup f_do_one = some ⟨oc_do_one, od_do_one, .func (PySem.W.fnOf "do_one" "do_one" (defArgs s_do_one) (defBody s_do_one) (defScope s_do_one) .none kV_do_one dc_do_one pm_do_one an_do_one cd_do_one ct_do_one), sl_do_one⟩)
    (c_do_one : PySem.W.codeIn K cd_do_one "do_one" = true)
    (q_do_one : PySem.W.keepIn K (.ref f_do_one) = true)
    (a_run_frame : PySem.W.nsIn K mainGlobals "run_frame" = some (some (.ref f_run_frame)))
    (l_run_frame : K.lookup f_run_frame = some ⟨oc_run_frame, od_run_frame, .func (PySem.W.fnOf "run_frame" "run_frame" (defArgs s_run_frame) (defBody s_run_frame) (defScope s_run_frame) .none kV_run_frame dc_run_frame pm_run_frame an_run_frame cd_run_frame ct_run_frame), sl_run_frame⟩)
    (c_run_frame : PySem.W.codeIn K cd_run_frame "run_frame" = true)
    (q_run_frame : PySem.W.keepIn K (.ref f_run_frame) = true)
    (a_as_numbers : PySem.W.nsIn K mainGlobals "as_numbers" = some (some (.ref f_as_numbers)))
    (l_as_numbers : K.lookup f_as_numbers = some ⟨oc_as_numbers, od_as_numbers, .func (PySem.W.fnOf "as_numbers" "as_numbers" (defArgs s_as_numbers) (defBody s_as_numbers) (defScope s_as_numbers) .none kV_as_numbers dc_as_numbers pm_as_numbers an_as_numbers cd_as_numbers ct_as_numbers), sl_as_numbers⟩)
    (c_as_numbers : PySem.W.codeIn K cd_as_numbers "as_numbers" = true)
    (q_as_numbers : PySem.W.keepIn K (.ref f_as_numbers) = true)
    (a_mark_of : PySem.W.nsIn K mainGlobals "mark_of" = some (some (.ref f_mark_of)))
    (l_mark_of : K.lookup f_mark_of = some ⟨oc_mark_of, od_mark_of, .func (PySem.W.fnOf "mark_of" "mark_of" (defArgs s_mark_of) (defBody s_mark_of) (defScope s_mark_of) .none kV_mark_of dc_mark_of pm_mark_of an_mark_of cd_mark_of ct_mark_of), sl_mark_of⟩)
    (c_mark_of : PySem.W.codeIn K cd_mark_of "mark_of" = true)
    (q_mark_of : PySem.W.keepIn K (.ref f_mark_of) = true)
    (a_are_alike : PySem.W.nsIn K mainGlobals "are_alike" = some (some (.ref f_are_alike)))
    (l_are_alike : K.lookup f_are_alike = some ⟨oc_are_alike, od_are_alike, .func (PySem.W.fnOf "are_alike" "are_alike" (defArgs s_are_alike) (defBody s_are_alike) (defScope s_are_alike) .none kV_are_alike dc_are_alike pm_are_alike an_are_alike cd_are_alike ct_are_alike), sl_are_alike⟩)
    (c_are_alike : PySem.W.codeIn K cd_are_alike "are_alike" = true)
    (q_are_alike : PySem.W.keepIn K (.ref f_are_alike) = true)
    (a_machine_ahead : PySem.W.nsIn K mainGlobals "machine_ahead" = some (some (.ref f_machine_ahead)))
    (l_machine_ahead : K.lookup f_machine_ahead = some ⟨oc_machine_ahead, od_machine_ahead, .func (PySem.W.fnOf "machine_ahead" "machine_ahead" (defArgs s_machine_ahead) (defBody s_machine_ahead) (defScope s_machine_ahead) .none kV_machine_ahead dc_machine_ahead pm_machine_ahead an_machine_ahead cd_machine_ahead ct_machine_ahead), sl_machine_ahead⟩)
    (c_machine_ahead : PySem.W.codeIn K cd_machine_ahead "machine_ahead" = true)
    (q_machine_ahead : PySem.W.keepIn K (.ref f_machine_ahead) = true)
    (a_go_to : PySem.W.nsIn K mainGlobals "go_to" = some (some (.ref f_go_to)))
    (l_go_to : K.lookup f_go_to = some ⟨oc_go_to, od_go_to, .func (PySem.W.fnOf "go_to" "go_to" (defArgs s_go_to) (defBody s_go_to) (defScope s_go_to) .none kV_go_to dc_go_to pm_go_to an_go_to cd_go_to ct_go_to), sl_go_to⟩)
    (c_go_to : PySem.W.codeIn K cd_go_to "go_to" = true)
    (q_go_to : PySem.W.keepIn K (.ref f_go_to) = true)
    (a_play_on : PySem.W.nsIn K mainGlobals "play_on" = some (some (.ref f_play_on)))
    (l_play_on : K.lookup f_play_on = some ⟨oc_play_on, od_play_on, .func (PySem.W.fnOf "play_on" "play_on" (defArgs s_play_on) (defBody s_play_on) (defScope s_play_on) .none kV_play_on dc_play_on pm_play_on an_play_on cd_play_on ct_play_on), sl_play_on⟩)
    (c_play_on : PySem.W.codeIn K cd_play_on "play_on" = true)
    (q_play_on : PySem.W.keepIn K (.ref f_play_on) = true)
    (a_play_pad : PySem.W.nsIn K mainGlobals "play_pad" = some (some (.ref f_play_pad)))
    (l_play_pad : K.lookup f_play_pad = some ⟨oc_play_pad, od_play_pad, .func (PySem.W.fnOf "play_pad" "play_pad" (defArgs s_play_pad) (defBody s_play_pad) (defScope s_play_pad) .none kV_play_pad dc_play_pad pm_play_pad an_play_pad cd_play_pad ct_play_pad), sl_play_pad⟩)
    (c_play_pad : PySem.W.codeIn K cd_play_pad "play_pad" = true)
    (q_play_pad : PySem.W.keepIn K (.ref f_play_pad) = true)
    (a_first_difference : PySem.W.nsIn K mainGlobals "first_difference" = some (some (.ref f_first_difference)))
    (l_first_difference : K.lookup f_first_difference = some ⟨oc_first_difference, od_first_difference, .func (PySem.W.fnOf "first_difference" "first_difference" (defArgs s_first_difference) (defBody s_first_difference) (defScope s_first_difference) .none kV_first_difference dc_first_difference pm_first_difference an_first_difference cd_first_difference ct_first_difference), sl_first_difference⟩)
    (c_first_difference : PySem.W.codeIn K cd_first_difference "first_difference" = true)
    (q_first_difference : PySem.W.keepIn K (.ref f_first_difference) = true)
    (a_first_unlike : PySem.W.nsIn K mainGlobals "first_unlike" = some (some (.ref f_first_unlike)))
    (l_first_unlike : K.lookup f_first_unlike = some ⟨oc_first_unlike, od_first_unlike, .func (PySem.W.fnOf "first_unlike" "first_unlike" (defArgs s_first_unlike) (defBody s_first_unlike) (defScope s_first_unlike) .none kV_first_unlike dc_first_unlike pm_first_unlike an_first_unlike cd_first_unlike ct_first_unlike), sl_first_unlike⟩)
    (c_first_unlike : PySem.W.codeIn K cd_first_unlike "first_unlike" = true)
    (q_first_unlike : PySem.W.keepIn K (.ref f_first_unlike) = true)
    (a_count_free : PySem.W.nsIn K mainGlobals "count_free" = some (some (.ref f_count_free)))
    (l_count_free : K.lookup f_count_free = some ⟨oc_count_free, od_count_free, .func (PySem.W.fnOf "count_free" "count_free" (defArgs s_count_free) (defBody s_count_free) (defScope s_count_free) .none kV_count_free dc_count_free pm_count_free an_count_free cd_count_free ct_count_free), sl_count_free⟩)
    (c_count_free : PySem.W.codeIn K cd_count_free "count_free" = true)
    (q_count_free : PySem.W.keepIn K (.ref f_count_free) = true)
    (a_first_stray : PySem.W.nsIn K mainGlobals "first_stray" = some (some (.ref f_first_stray)))
    (l_first_stray : K.lookup f_first_stray = some ⟨oc_first_stray, od_first_stray, .func (PySem.W.fnOf "first_stray" "first_stray" (defArgs s_first_stray) (defBody s_first_stray) (defScope s_first_stray) .none kV_first_stray dc_first_stray pm_first_stray an_first_stray cd_first_stray ct_first_stray), sl_first_stray⟩)
    (c_first_stray : PySem.W.codeIn K cd_first_stray "first_stray" = true)
    (q_first_stray : PySem.W.keepIn K (.ref f_first_stray) = true)
    (a_need : PySem.W.nsIn K mainGlobals "need" = some (some (.ref f_need)))
    (l_need : K.lookup f_need = some ⟨oc_need, od_need, .func (PySem.W.fnOf "need" "need" (defArgs s_need) (defBody s_need) (defScope s_need) .none kV_need dc_need pm_need an_need cd_need ct_need), sl_need⟩)
    (c_need : PySem.W.codeIn K cd_need "need" = true)
    (q_need : PySem.W.keepIn K (.ref f_need) = true)
    (a_are_bytes : PySem.W.nsIn K mainGlobals "are_bytes" = some (some (.ref f_are_bytes)))
    (l_are_bytes : K.lookup f_are_bytes = some ⟨oc_are_bytes, od_are_bytes, .func (PySem.W.fnOf "are_bytes" "are_bytes" (defArgs s_are_bytes) (defBody s_are_bytes) (defScope s_are_bytes) .none kV_are_bytes dc_are_bytes pm_are_bytes an_are_bytes cd_are_bytes ct_are_bytes), sl_are_bytes⟩)
    (c_are_bytes : PySem.W.codeIn K cd_are_bytes "are_bytes" = true)
    (q_are_bytes : PySem.W.keepIn K (.ref f_are_bytes) = true)
    (a_take_of : PySem.W.nsIn K mainGlobals "take_of" = some (some (.ref f_take_of)))
    (l_take_of : K.lookup f_take_of = some ⟨oc_take_of, od_take_of, .func (PySem.W.fnOf "take_of" "take_of" (defArgs s_take_of) (defBody s_take_of) (defScope s_take_of) .none kV_take_of dc_take_of pm_take_of an_take_of cd_take_of ct_take_of), sl_take_of⟩)
    (c_take_of : PySem.W.codeIn K cd_take_of "take_of" = true)
    (q_take_of : PySem.W.keepIn K (.ref f_take_of) = true)
    (a_where : PySem.W.nsIn K mainGlobals "where" = some (some (.ref f_where)))
    (l_where : K.lookup f_where = some ⟨oc_where, od_where, .func (PySem.W.fnOf "where" "where" (defArgs s_where) (defBody s_where) (defScope s_where) .none kV_where dc_where pm_where an_where cd_where ct_where), sl_where⟩)
    (c_where : PySem.W.codeIn K cd_where "where" = true)
    (q_where : PySem.W.keepIn K (.ref f_where) = true)
    (a_need_room : PySem.W.nsIn K mainGlobals "need_room" = some (some (.ref f_need_room)))
    (l_need_room : K.lookup f_need_room = some ⟨oc_need_room, od_need_room, .func (PySem.W.fnOf "need_room" "need_room" (defArgs s_need_room) (defBody s_need_room) (defScope s_need_room) .none kV_need_room dc_need_room pm_need_room an_need_room cd_need_room ct_need_room), sl_need_room⟩)
    (c_need_room : PySem.W.codeIn K cd_need_room "need_room" = true)
    (q_need_room : PySem.W.keepIn K (.ref f_need_room) = true)
    (a_play_all : PySem.W.nsIn K mainGlobals "play_all" = some (some (.ref f_play_all)))
    (l_play_all : K.lookup f_play_all = some ⟨oc_play_all, od_play_all, .func (PySem.W.fnOf "play_all" "play_all" (defArgs s_play_all) (defBody s_play_all) (defScope s_play_all) .none kV_play_all dc_play_all pm_play_all an_play_all cd_play_all ct_play_all), sl_play_all⟩)
    (c_play_all : PySem.W.codeIn K cd_play_all "play_all" = true)
    (q_play_all : PySem.W.keepIn K (.ref f_play_all) = true)
    (a_do_begin : PySem.W.nsIn K mainGlobals "do_begin" = some (some (.ref f_do_begin)))
    (l_do_begin : K.lookup f_do_begin = some ⟨oc_do_begin, od_do_begin, .func (PySem.W.fnOf "do_begin" "do_begin" (defArgs s_do_begin) (defBody s_do_begin) (defScope s_do_begin) .none kV_do_begin dc_do_begin pm_do_begin an_do_begin cd_do_begin ct_do_begin), sl_do_begin⟩)
    (c_do_begin : PySem.W.codeIn K cd_do_begin "do_begin" = true)
    (q_do_begin : PySem.W.keepIn K (.ref f_do_begin) = true)
    (a_do_play : PySem.W.nsIn K mainGlobals "do_play" = some (some (.ref f_do_play)))
    (l_do_play : K.lookup f_do_play = some ⟨oc_do_play, od_do_play, .func (PySem.W.fnOf "do_play" "do_play" (defArgs s_do_play) (defBody s_do_play) (defScope s_do_play) .none kV_do_play dc_do_play pm_do_play an_do_play cd_do_play ct_do_play), sl_do_play⟩)
    (c_do_play : PySem.W.codeIn K cd_do_play "do_play" = true)
    (q_do_play : PySem.W.keepIn K (.ref f_do_play) = true)
    (a_do_on : PySem.W.nsIn K mainGlobals "do_on" = some (some (.ref f_do_on)))
    (l_do_on : K.lookup f_do_on = some ⟨oc_do_on, od_do_on, .func (PySem.W.fnOf "do_on" "do_on" (defArgs s_do_on) (defBody s_do_on) (defScope s_do_on) .none kV_do_on dc_do_on pm_do_on an_do_on cd_do_on ct_do_on), sl_do_on⟩)
    (c_do_on : PySem.W.codeIn K cd_do_on "do_on" = true)
    (q_do_on : PySem.W.keepIn K (.ref f_do_on) = true)
    (a_do_go : PySem.W.nsIn K mainGlobals "do_go" = some (some (.ref f_do_go)))
    (l_do_go : K.lookup f_do_go = some ⟨oc_do_go, od_do_go, .func (PySem.W.fnOf "do_go" "do_go" (defArgs s_do_go) (defBody s_do_go) (defScope s_do_go) .none kV_do_go dc_do_go pm_do_go an_do_go cd_do_go ct_do_go), sl_do_go⟩)
    (c_do_go : PySem.W.codeIn K cd_do_go "do_go" = true)
    (q_do_go : PySem.W.keepIn K (.ref f_do_go) = true)
    (a_do_takes : PySem.W.nsIn K mainGlobals "do_takes" = some (some (.ref f_do_takes)))
    (l_do_takes : K.lookup f_do_takes = some ⟨oc_do_takes, od_do_takes, .func (PySem.W.fnOf "do_takes" "do_takes" (defArgs s_do_takes) (defBody s_do_takes) (defScope s_do_takes) .none kV_do_takes dc_do_takes pm_do_takes an_do_takes cd_do_takes ct_do_takes), sl_do_takes⟩)
    (c_do_takes : PySem.W.codeIn K cd_do_takes "do_takes" = true)
    (q_do_takes : PySem.W.keepIn K (.ref f_do_takes) = true)
    (a_do_pads : PySem.W.nsIn K mainGlobals "do_pads" = some (some (.ref f_do_pads)))
    (l_do_pads : K.lookup f_do_pads = some ⟨oc_do_pads, od_do_pads, .func (PySem.W.fnOf "do_pads" "do_pads" (defArgs s_do_pads) (defBody s_do_pads) (defScope s_do_pads) .none kV_do_pads dc_do_pads pm_do_pads an_do_pads cd_do_pads ct_do_pads), sl_do_pads⟩)
    (c_do_pads : PySem.W.codeIn K cd_do_pads "do_pads" = true)
    (q_do_pads : PySem.W.keepIn K (.ref f_do_pads) = true)
    (a_do_put : PySem.W.nsIn K mainGlobals "do_put" = some (some (.ref f_do_put)))
    (l_do_put : K.lookup f_do_put = some ⟨oc_do_put, od_do_put, .func (PySem.W.fnOf "do_put" "do_put" (defArgs s_do_put) (defBody s_do_put) (defScope s_do_put) .none kV_do_put dc_do_put pm_do_put an_do_put cd_do_put ct_do_put), sl_do_put⟩)
    (c_do_put : PySem.W.codeIn K cd_do_put "do_put" = true)
    (q_do_put : PySem.W.keepIn K (.ref f_do_put) = true)
    (a_need_frame : PySem.W.nsIn K mainGlobals "need_frame" = some (some (.ref f_need_frame)))
    (l_need_frame : K.lookup f_need_frame = some ⟨oc_need_frame, od_need_frame, .func (PySem.W.fnOf "need_frame" "need_frame" (defArgs s_need_frame) (defBody s_need_frame) (defScope s_need_frame) .none kV_need_frame dc_need_frame pm_need_frame an_need_frame cd_need_frame ct_need_frame), sl_need_frame⟩)
    (c_need_frame : PySem.W.codeIn K cd_need_frame "need_frame" = true)
    (q_need_frame : PySem.W.keepIn K (.ref f_need_frame) = true)
    (a_do_cut : PySem.W.nsIn K mainGlobals "do_cut" = some (some (.ref f_do_cut)))
    (l_do_cut : K.lookup f_do_cut = some ⟨oc_do_cut, od_do_cut, .func (PySem.W.fnOf "do_cut" "do_cut" (defArgs s_do_cut) (defBody s_do_cut) (defScope s_do_cut) .none kV_do_cut dc_do_cut pm_do_cut an_do_cut cd_do_cut ct_do_cut), sl_do_cut⟩)
    (c_do_cut : PySem.W.codeIn K cd_do_cut "do_cut" = true)
    (q_do_cut : PySem.W.keepIn K (.ref f_do_cut) = true)
    (a_do_parts : PySem.W.nsIn K mainGlobals "do_parts" = some (some (.ref f_do_parts)))
    (l_do_parts : K.lookup f_do_parts = some ⟨oc_do_parts, od_do_parts, .func (PySem.W.fnOf "do_parts" "do_parts" (defArgs s_do_parts) (defBody s_do_parts) (defScope s_do_parts) .none kV_do_parts dc_do_parts pm_do_parts an_do_parts cd_do_parts ct_do_parts), sl_do_parts⟩)
    (c_do_parts : PySem.W.codeIn K cd_do_parts "do_parts" = true)
    (q_do_parts : PySem.W.keepIn K (.ref f_do_parts) = true)
    (a_do_free : PySem.W.nsIn K mainGlobals "do_free" = some (some (.ref f_do_free)))
    (l_do_free : K.lookup f_do_free = some ⟨oc_do_free, od_do_free, .func (PySem.W.fnOf "do_free" "do_free" (defArgs s_do_free) (defBody s_do_free) (defScope s_do_free) .none kV_do_free dc_do_free pm_do_free an_do_free cd_do_free ct_do_free), sl_do_free⟩)
    (c_do_free : PySem.W.codeIn K cd_do_free "do_free" = true)
    (q_do_free : PySem.W.keepIn K (.ref f_do_free) = true)
    (a_do_patch : PySem.W.nsIn K mainGlobals "do_patch" = some (some (.ref f_do_patch)))
    (l_do_patch : K.lookup f_do_patch = some ⟨oc_do_patch, od_do_patch, .func (PySem.W.fnOf "do_patch" "do_patch" (defArgs s_do_patch) (defBody s_do_patch) (defScope s_do_patch) .none kV_do_patch dc_do_patch pm_do_patch an_do_patch cd_do_patch ct_do_patch), sl_do_patch⟩)
    (c_do_patch : PySem.W.codeIn K cd_do_patch "do_patch" = true)
    (q_do_patch : PySem.W.keepIn K (.ref f_do_patch) = true)
    (a_do_strays : PySem.W.nsIn K mainGlobals "do_strays" = some (some (.ref f_do_strays)))
    (l_do_strays : K.lookup f_do_strays = some ⟨oc_do_strays, od_do_strays, .func (PySem.W.fnOf "do_strays" "do_strays" (defArgs s_do_strays) (defBody s_do_strays) (defScope s_do_strays) .none kV_do_strays dc_do_strays pm_do_strays an_do_strays cd_do_strays ct_do_strays), sl_do_strays⟩)
    (c_do_strays : PySem.W.codeIn K cd_do_strays "do_strays" = true)
    (q_do_strays : PySem.W.keepIn K (.ref f_do_strays) = true)
    (a_call_of_one : PySem.W.nsIn K mainGlobals "call_of_one" = some (some (.ref f_call_of_one)))
    (l_call_of_one : K.lookup f_call_of_one = some ⟨oc_call_of_one, od_call_of_one, .func (PySem.W.fnOf "call_of_one" "call_of_one" (defArgs s_call_of_one) (defBody s_call_of_one) (defScope s_call_of_one) .none kV_call_of_one dc_call_of_one pm_call_of_one an_call_of_one cd_call_of_one ct_call_of_one), sl_call_of_one⟩)
    (c_call_of_one : PySem.W.codeIn K cd_call_of_one "call_of_one" = true)
    (q_call_of_one : PySem.W.keepIn K (.ref f_call_of_one) = true)
    (a_answer_call : PySem.W.nsIn K mainGlobals "answer_call" = some (some (.ref f_answer_call)))
    (l_answer_call : K.lookup f_answer_call = some ⟨oc_answer_call, od_answer_call, .func (PySem.W.fnOf "answer_call" "answer_call" (defArgs s_answer_call) (defBody s_answer_call) (defScope s_answer_call) .none kV_answer_call dc_answer_call pm_answer_call an_answer_call cd_answer_call ct_answer_call), sl_answer_call⟩)
    (c_answer_call : PySem.W.codeIn K cd_answer_call "answer_call" = true)
    (q_answer_call : PySem.W.keepIn K (.ref f_answer_call) = true)
    (a_answers : PySem.W.nsIn K mainGlobals "answers" = some (some (.ref f_answers)))
    (l_answers : K.lookup f_answers = some ⟨oc_answers, od_answers, .func (PySem.W.fnOf "answers" "answers" (defArgs s_answers) (defBody s_answers) (defScope s_answers) .none kV_answers dc_answers pm_answers an_answers cd_answers ct_answers), sl_answers⟩)
    (c_answers : PySem.W.codeIn K cd_answers "answers" = true)
    (q_answers : PySem.W.keepIn K (.ref f_answers) = true) :
    ∃ fd : FuncData, (∀ (s : Shared) (us : List Value), us.length = (["calls"] : List Str).length → BindsTo s fd ⟨us, []⟩ ((["calls"] : List Str).zip us)) ∧ ∀ base : Heap, K.In base → base.Ns mainGlobals mg → FnOk P w K mg base CX0 12 fa fd ["calls"] (spAns K) := by
  have e := hfa.symm.trans (PySem.W.mg_of X G a_answers)
  cases e
  have T : Txt K mg ⟨CM, CT, CH, CD, CC⟩ := {
    g_PLACES := (by obtain ⟨t, e⟩ := g_PLACES; exact ⟨t, PySem.W.mg_of X G e⟩)
    g_PAD_PLACE := (by obtain ⟨t, e⟩ := g_PAD_PLACE; exact ⟨t, PySem.W.mg_of X G e⟩)
    g_MOST_DONE := (by obtain ⟨t, e⟩ := g_MOST_DONE; exact ⟨t, PySem.W.mg_of X G e⟩)
    g_MARK_TIMES := (by obtain ⟨t, e⟩ := g_MARK_TIMES; exact ⟨t, PySem.W.mg_of X G e⟩)
    g_MARK_MORE := (by obtain ⟨t, e⟩ := g_MARK_MORE; exact ⟨t, PySem.W.mg_of X G e⟩)
    g_MARK_REST := (by obtain ⟨t, e⟩ := g_MARK_REST; exact ⟨t, PySem.W.mg_of X G e⟩)
    g_MOST_BYTES := (by obtain ⟨t, e⟩ := g_MOST_BYTES; exact ⟨t, PySem.W.mg_of X G e⟩)
    g_MOST_FRAMES := (by obtain ⟨t, e⟩ := g_MOST_FRAMES; exact ⟨t, PySem.W.mg_of X G e⟩)
    g_MOST_TAKES := (by obtain ⟨t, e⟩ := g_MOST_TAKES; exact ⟨t, PySem.W.mg_of X G e⟩)
    n_len := PySem.W.mg_none_of X G n_len
    n_list := PySem.W.mg_none_of X G n_list
    n_all := PySem.W.mg_none_of X G n_all
    n_min := PySem.W.mg_none_of X G n_min
    n_range := PySem.W.mg_none_of X G n_range
    n_zip := PySem.W.mg_none_of X G n_zip
    n_enumerate := PySem.W.mg_none_of X G n_enumerate
    n_Exception := PySem.W.mg_none_of X G n_Exception
    clM := ⟨pgM, hdM, poM, saM⟩
    noM_content := noM_content
    noM_a := noM_a
    noM_x := noM_x
    noM_place := noM_place
    noM_z := noM_z
    noM_c := noM_c
    i_Machine := ⟨_, _, PySem.W.mg_of X G aM, ⟨mkM, a_Machine_init, i_Machine_init, kcM⟩, fun_mk (st := s_Machine_init) l_Machine_init c_Machine_init q_Machine_init, (fun_mk (st := s_Machine_init) l_Machine_init c_Machine_init q_Machine_init).binds (ps := ["self", "loaded"]) fun _ _ _ _ _ _ us hl => match us, hl with | [_, _], _ => rfl⟩
    clT := ⟨pgT, hdT, poT, saT⟩
    noT_parent := noT_parent
    noT_ahead := noT_ahead
    noT_pads := noT_pads
    noT_marks := noT_marks
    i_Take := ⟨_, _, PySem.W.mg_of X G aT, ⟨mkT, a_Take_init, i_Take_init, kcT⟩, fun_mk (st := s_Take_init) l_Take_init c_Take_init q_Take_init, (fun_mk (st := s_Take_init) l_Take_init c_Take_init q_Take_init).binds (ps := ["self", "parent", "ahead", "pads", "marks"]) fun _ _ _ _ _ _ us hl => match us, hl with | [_, _, _, _, _], _ => rfl⟩
    clH := ⟨pgH, hdH, poH, saH⟩
    noH_loaded := noH_loaded
    noH_takes := noH_takes
    noH_here := noH_here
    noH_played := noH_played
    noH_machine := noH_machine
    i_House := ⟨_, _, PySem.W.mg_of X G aH, ⟨mkH, a_House_init, i_House_init, kcH⟩, fun_mk (st := s_House_init) l_House_init c_House_init q_House_init, (fun_mk (st := s_House_init) l_House_init c_House_init q_House_init).binds (ps := ["self", "content"]) fun _ _ _ _ _ _ us hl => match us, hl with | [_, _], _ => rfl⟩
    clC := ⟨pgC, hdC, poC, saC⟩
    noC_numbers := noC_numbers
    noC_at := noC_at
    i_Calls := ⟨_, _, PySem.W.mg_of X G aC, ⟨mkC, a_Calls_init, i_Calls_init, kcC⟩, fun_mk (st := s_Calls_init) l_Calls_init c_Calls_init q_Calls_init, (fun_mk (st := s_Calls_init) l_Calls_init c_Calls_init q_Calls_init).binds (ps := ["self", "numbers"]) fun _ _ _ _ _ _ us hl => match us, hl with | [_, _], _ => rfl⟩
    m_next_number := ⟨_, _, ⟨a_next_number, i_next_number, q_next_number⟩, fun_mk (st := s_next_number) l_next_number c_next_number q_next_number, (fun_mk (st := s_next_number) l_next_number c_next_number q_next_number).binds (ps := ["self"]) fun _ _ _ _ _ _ us hl => match us, hl with | [_], _ => rfl⟩
    m_next_row := ⟨_, _, ⟨a_next_row, i_next_row, q_next_row⟩, fun_mk (st := s_next_row) l_next_row c_next_row q_next_row, (fun_mk (st := s_next_row) l_next_row c_next_row q_next_row).binds (ps := ["self"]) fun _ _ _ _ _ _ us hl => match us, hl with | [_], _ => rfl⟩
    oxe := ⟨⟨_, _, _, _, _, _, _, _, _, _, _, _, _, _, xD⟩, saD, eD, tD, kD⟩
    xf := ⟨gaD, ggD, eD, hdD⟩
    noNumber := nnD
    gDenied := PySem.W.mg_of X G aD
    eDenied := exm_self eD iD tD sD
    i_Denied := ⟨_, _, a_Denied_init, t_Denied_init, fun_mk (st := s_Denied_init) l_Denied_init c_Denied_init q_Denied_init, (fun_mk (st := s_Denied_init) l_Denied_init c_Denied_init q_Denied_init).binds (ps := ["self", "number"]) fun _ _ _ _ _ _ us hl => match us, hl with | [_, _], _ => rfl⟩
    d_copied := ⟨_, _, PySem.W.mg_of X G a_copied, fun_mk (st := s_copied) l_copied c_copied q_copied, (fun_mk (st := s_copied) l_copied c_copied q_copied).binds (ps := ["machine"]) fun _ _ _ _ _ _ us hl => match us, hl with | [_], _ => rfl⟩
    d_byte_at := ⟨_, _, PySem.W.mg_of X G a_byte_at, fun_mk (st := s_byte_at) l_byte_at c_byte_at q_byte_at, (fun_mk (st := s_byte_at) l_byte_at c_byte_at q_byte_at).binds (ps := ["machine", "place"]) fun _ _ _ _ _ _ us hl => match us, hl with | [_, _], _ => rfl⟩
    d_set_byte := ⟨_, _, PySem.W.mg_of X G a_set_byte, fun_mk (st := s_set_byte) l_set_byte c_set_byte q_set_byte, (fun_mk (st := s_set_byte) l_set_byte c_set_byte q_set_byte).binds (ps := ["machine", "place", "byte"]) fun _ _ _ _ _ _ us hl => match us, hl with | [_, _, _], _ => rfl⟩
    d_set_a := ⟨_, _, PySem.W.mg_of X G a_set_a, fun_mk (st := s_set_a) l_set_a c_set_a q_set_a, (fun_mk (st := s_set_a) l_set_a c_set_a q_set_a).binds (ps := ["machine", "n"]) fun _ _ _ _ _ _ us hl => match us, hl with | [_, _], _ => rfl⟩
    d_set_x := ⟨_, _, PySem.W.mg_of X G a_set_x, fun_mk (st := s_set_x) l_set_x c_set_x q_set_x, (fun_mk (st := s_set_x) l_set_x c_set_x q_set_x).binds (ps := ["machine", "n"]) fun _ _ _ _ _ _ us hl => match us, hl with | [_, _], _ => rfl⟩
    d_add_or_take := ⟨_, _, PySem.W.mg_of X G a_add_or_take, fun_mk (st := s_add_or_take) l_add_or_take c_add_or_take q_add_or_take, (fun_mk (st := s_add_or_take) l_add_or_take c_add_or_take q_add_or_take).binds (ps := ["machine", "which", "n"]) fun _ _ _ _ _ _ us hl => match us, hl with | [_, _, _], _ => rfl⟩
    d_move := ⟨_, _, PySem.W.mg_of X G a_move, fun_mk (st := s_move) l_move c_move q_move, (fun_mk (st := s_move) l_move c_move q_move).binds (ps := ["machine", "which", "n"]) fun _ _ _ _ _ _ us hl => match us, hl with | [_, _, _], _ => rfl⟩
    d_jumps := ⟨_, _, PySem.W.mg_of X G a_jumps, fun_mk (st := s_jumps) l_jumps c_jumps q_jumps, (fun_mk (st := s_jumps) l_jumps c_jumps q_jumps).binds (ps := ["machine", "which"]) fun _ _ _ _ _ _ us hl => match us, hl with | [_, _], _ => rfl⟩
    d_do_one := ⟨_, _, PySem.W.mg_of X G a_do_one, fun_mk (st := s_do_one) l_do_one c_do_one q_do_one, (fun_mk (st := s_do_one) l_do_one c_do_one q_do_one).binds (ps := ["machine"]) fun _ _ _ _ _ _ us hl => match us, hl with | [_], _ => rfl⟩
    d_run_frame := ⟨_, _, PySem.W.mg_of X G a_run_frame, fun_mk (st := s_run_frame) l_run_frame c_run_frame q_run_frame, (fun_mk (st := s_run_frame) l_run_frame c_run_frame q_run_frame).binds (ps := ["machine", "pad"]) fun _ _ _ _ _ _ us hl => match us, hl with | [_, _], _ => rfl⟩
    d_as_numbers := ⟨_, _, PySem.W.mg_of X G a_as_numbers, fun_mk (st := s_as_numbers) l_as_numbers c_as_numbers q_as_numbers, (fun_mk (st := s_as_numbers) l_as_numbers c_as_numbers q_as_numbers).binds (ps := ["machine"]) fun _ _ _ _ _ _ us hl => match us, hl with | [_], _ => rfl⟩
    d_mark_of := ⟨_, _, PySem.W.mg_of X G a_mark_of, fun_mk (st := s_mark_of) l_mark_of c_mark_of q_mark_of, (fun_mk (st := s_mark_of) l_mark_of c_mark_of q_mark_of).binds (ps := ["machine"]) fun _ _ _ _ _ _ us hl => match us, hl with | [_], _ => rfl⟩
    d_are_alike := ⟨_, _, PySem.W.mg_of X G a_are_alike, fun_mk (st := s_are_alike) l_are_alike c_are_alike q_are_alike, (fun_mk (st := s_are_alike) l_are_alike c_are_alike q_are_alike).binds (ps := ["first", "second"]) fun _ _ _ _ _ _ us hl => match us, hl with | [_, _], _ => rfl⟩
    d_machine_ahead := ⟨_, _, PySem.W.mg_of X G a_machine_ahead, fun_mk (st := s_machine_ahead) l_machine_ahead c_machine_ahead q_machine_ahead, (fun_mk (st := s_machine_ahead) l_machine_ahead c_machine_ahead q_machine_ahead).binds (ps := ["house", "take", "t"]) fun _ _ _ _ _ _ us hl => match us, hl with | [_, _, _], _ => rfl⟩
    d_go_to := ⟨_, _, PySem.W.mg_of X G a_go_to, fun_mk (st := s_go_to) l_go_to c_go_to q_go_to, (fun_mk (st := s_go_to) l_go_to c_go_to q_go_to).binds (ps := ["house", "here", "played"]) fun _ _ _ _ _ _ us hl => match us, hl with | [_, _, _], _ => rfl⟩
    d_play_on := ⟨_, _, PySem.W.mg_of X G a_play_on, fun_mk (st := s_play_on) l_play_on c_play_on q_play_on, (fun_mk (st := s_play_on) l_play_on c_play_on q_play_on).binds (ps := ["house", "many"]) fun _ _ _ _ _ _ us hl => match us, hl with | [_, _], _ => rfl⟩
    d_play_pad := ⟨_, _, PySem.W.mg_of X G a_play_pad, fun_mk (st := s_play_pad) l_play_pad c_play_pad q_play_pad, (fun_mk (st := s_play_pad) l_play_pad c_play_pad q_play_pad).binds (ps := ["house", "pad"]) fun _ _ _ _ _ _ us hl => match us, hl with | [_, _], _ => rfl⟩
    d_first_difference := ⟨_, _, PySem.W.mg_of X G a_first_difference, fun_mk (st := s_first_difference) l_first_difference c_first_difference q_first_difference, (fun_mk (st := s_first_difference) l_first_difference c_first_difference q_first_difference).binds (ps := ["first", "second"]) fun _ _ _ _ _ _ us hl => match us, hl with | [_, _], _ => rfl⟩
    d_first_unlike := ⟨_, _, PySem.W.mg_of X G a_first_unlike, fun_mk (st := s_first_unlike) l_first_unlike c_first_unlike q_first_unlike, (fun_mk (st := s_first_unlike) l_first_unlike c_first_unlike q_first_unlike).binds (ps := ["house", "first", "second"]) fun _ _ _ _ _ _ us hl => match us, hl with | [_, _, _], _ => rfl⟩
    d_count_free := ⟨_, _, PySem.W.mg_of X G a_count_free, fun_mk (st := s_count_free) l_count_free c_count_free q_count_free, (fun_mk (st := s_count_free) l_count_free c_count_free q_count_free).binds (ps := ["house", "t"]) fun _ _ _ _ _ _ us hl => match us, hl with | [_, _], _ => rfl⟩
    d_first_stray := ⟨_, _, PySem.W.mg_of X G a_first_stray, fun_mk (st := s_first_stray) l_first_stray c_first_stray q_first_stray, (fun_mk (st := s_first_stray) l_first_stray c_first_stray q_first_stray).binds (ps := ["house", "take"]) fun _ _ _ _ _ _ us hl => match us, hl with | [_, _], _ => rfl⟩
    d_need := ⟨_, _, PySem.W.mg_of X G a_need, fun_mk (st := s_need) l_need c_need q_need, (fun_mk (st := s_need) l_need c_need q_need).binds (ps := ["holds", "number"]) fun _ _ _ _ _ _ us hl => match us, hl with | [_, _], _ => rfl⟩
    d_are_bytes := ⟨_, _, PySem.W.mg_of X G a_are_bytes, fun_mk (st := s_are_bytes) l_are_bytes c_are_bytes q_are_bytes, (fun_mk (st := s_are_bytes) l_are_bytes c_are_bytes q_are_bytes).binds (ps := ["numbers"]) fun _ _ _ _ _ _ us hl => match us, hl with | [_], _ => rfl⟩
    d_take_of := ⟨_, _, PySem.W.mg_of X G a_take_of, fun_mk (st := s_take_of) l_take_of c_take_of q_take_of, (fun_mk (st := s_take_of) l_take_of c_take_of q_take_of).binds (ps := ["house", "k"]) fun _ _ _ _ _ _ us hl => match us, hl with | [_, _], _ => rfl⟩
    d_where := ⟨_, _, PySem.W.mg_of X G a_where, fun_mk (st := s_where) l_where c_where q_where, (fun_mk (st := s_where) l_where c_where q_where).binds (ps := ["house"]) fun _ _ _ _ _ _ us hl => match us, hl with | [_], _ => rfl⟩
    d_need_room := ⟨_, _, PySem.W.mg_of X G a_need_room, fun_mk (st := s_need_room) l_need_room c_need_room q_need_room, (fun_mk (st := s_need_room) l_need_room c_need_room q_need_room).binds (ps := ["house", "here", "played", "pads"]) fun _ _ _ _ _ _ us hl => match us, hl with | [_, _, _, _], _ => rfl⟩
    d_play_all := ⟨_, _, PySem.W.mg_of X G a_play_all, fun_mk (st := s_play_all) l_play_all c_play_all q_play_all, (fun_mk (st := s_play_all) l_play_all c_play_all q_play_all).binds (ps := ["house", "pads"]) fun _ _ _ _ _ _ us hl => match us, hl with | [_, _], _ => rfl⟩
    d_do_begin := ⟨_, _, PySem.W.mg_of X G a_do_begin, fun_mk (st := s_do_begin) l_do_begin c_do_begin q_do_begin, (fun_mk (st := s_do_begin) l_do_begin c_do_begin q_do_begin).binds (ps := ["content"]) fun _ _ _ _ _ _ us hl => match us, hl with | [_], _ => rfl⟩
    d_do_play := ⟨_, _, PySem.W.mg_of X G a_do_play, fun_mk (st := s_do_play) l_do_play c_do_play q_do_play, (fun_mk (st := s_do_play) l_do_play c_do_play q_do_play).binds (ps := ["house", "pads"]) fun _ _ _ _ _ _ us hl => match us, hl with | [_, _], _ => rfl⟩
    d_do_on := ⟨_, _, PySem.W.mg_of X G a_do_on, fun_mk (st := s_do_on) l_do_on c_do_on q_do_on, (fun_mk (st := s_do_on) l_do_on c_do_on q_do_on).binds (ps := ["house", "n"]) fun _ _ _ _ _ _ us hl => match us, hl with | [_, _], _ => rfl⟩
    d_do_go := ⟨_, _, PySem.W.mg_of X G a_do_go, fun_mk (st := s_do_go) l_do_go c_do_go q_do_go, (fun_mk (st := s_do_go) l_do_go c_do_go q_do_go).binds (ps := ["house", "k", "t"]) fun _ _ _ _ _ _ us hl => match us, hl with | [_, _, _], _ => rfl⟩
    d_do_takes := ⟨_, _, PySem.W.mg_of X G a_do_takes, fun_mk (st := s_do_takes) l_do_takes c_do_takes q_do_takes, (fun_mk (st := s_do_takes) l_do_takes c_do_takes q_do_takes).binds (ps := ["house"]) fun _ _ _ _ _ _ us hl => match us, hl with | [_], _ => rfl⟩
    d_do_pads := ⟨_, _, PySem.W.mg_of X G a_do_pads, fun_mk (st := s_do_pads) l_do_pads c_do_pads q_do_pads, (fun_mk (st := s_do_pads) l_do_pads c_do_pads q_do_pads).binds (ps := ["house", "k"]) fun _ _ _ _ _ _ us hl => match us, hl with | [_, _], _ => rfl⟩
    d_do_put := ⟨_, _, PySem.W.mg_of X G a_do_put, fun_mk (st := s_do_put) l_do_put c_do_put q_do_put, (fun_mk (st := s_do_put) l_do_put c_do_put q_do_put).binds (ps := ["house", "k", "a", "b"]) fun _ _ _ _ _ _ us hl => match us, hl with | [_, _, _, _], _ => rfl⟩
    d_need_frame := ⟨_, _, PySem.W.mg_of X G a_need_frame, fun_mk (st := s_need_frame) l_need_frame c_need_frame q_need_frame, (fun_mk (st := s_need_frame) l_need_frame c_need_frame q_need_frame).binds (ps := ["house", "t"]) fun _ _ _ _ _ _ us hl => match us, hl with | [_, _], _ => rfl⟩
    d_do_cut := ⟨_, _, PySem.W.mg_of X G a_do_cut, fun_mk (st := s_do_cut) l_do_cut c_do_cut q_do_cut, (fun_mk (st := s_do_cut) l_do_cut c_do_cut q_do_cut).binds (ps := ["house", "t"]) fun _ _ _ _ _ _ us hl => match us, hl with | [_, _], _ => rfl⟩
    d_do_parts := ⟨_, _, PySem.W.mg_of X G a_do_parts, fun_mk (st := s_do_parts) l_do_parts c_do_parts q_do_parts, (fun_mk (st := s_do_parts) l_do_parts c_do_parts q_do_parts).binds (ps := ["house", "k", "other"]) fun _ _ _ _ _ _ us hl => match us, hl with | [_, _, _], _ => rfl⟩
    d_do_free := ⟨_, _, PySem.W.mg_of X G a_do_free, fun_mk (st := s_do_free) l_do_free c_do_free q_do_free, (fun_mk (st := s_do_free) l_do_free c_do_free q_do_free).binds (ps := ["house", "t"]) fun _ _ _ _ _ _ us hl => match us, hl with | [_, _], _ => rfl⟩
    d_do_patch := ⟨_, _, PySem.W.mg_of X G a_do_patch, fun_mk (st := s_do_patch) l_do_patch c_do_patch q_do_patch, (fun_mk (st := s_do_patch) l_do_patch c_do_patch q_do_patch).binds (ps := ["house", "place", "byte"]) fun _ _ _ _ _ _ us hl => match us, hl with | [_, _, _], _ => rfl⟩
    d_do_strays := ⟨_, _, PySem.W.mg_of X G a_do_strays, fun_mk (st := s_do_strays) l_do_strays c_do_strays q_do_strays, (fun_mk (st := s_do_strays) l_do_strays c_do_strays q_do_strays).binds (ps := ["house", "k"]) fun _ _ _ _ _ _ us hl => match us, hl with | [_, _], _ => rfl⟩
    d_call_of_one := ⟨_, _, PySem.W.mg_of X G a_call_of_one, fun_mk (st := s_call_of_one) l_call_of_one c_call_of_one q_call_of_one, (fun_mk (st := s_call_of_one) l_call_of_one c_call_of_one q_call_of_one).binds (ps := ["house", "call", "n"]) fun _ _ _ _ _ _ us hl => match us, hl with | [_, _, _], _ => rfl⟩
    d_answer_call := ⟨_, _, PySem.W.mg_of X G a_answer_call, fun_mk (st := s_answer_call) l_answer_call c_answer_call q_answer_call, (fun_mk (st := s_answer_call) l_answer_call c_answer_call q_answer_call).binds (ps := ["house", "call", "reading"]) fun _ _ _ _ _ _ us hl => match us, hl with | [_, _, _], _ => rfl⟩
    d_answers := ⟨_, _, PySem.W.mg_of X G a_answers, fun_mk (st := s_answers) l_answers c_answers q_answers, (fun_mk (st := s_answers) l_answers c_answers q_answers).binds (ps := ["calls"]) fun _ _ _ _ _ _ us hl => match us, hl with | [_], _ => rfl⟩ }
  exact ⟨PySem.W.fnOf "answers" "answers" (defArgs s_answers) (defBody s_answers) (defScope s_answers) .none kV_answers dc_answers pm_answers an_answers cd_answers ct_answers, fun s us hu => match us, hu with | [_], _ => .of_eq rfl, fun base _ _ => ok_answers T (fun_mk (st := s_answers) l_answers c_answers q_answers)⟩
end Tk
open PySem PySem.W PyProof.Rows
set_option maxRecDepth 100000 in
set_option maxHeartbeats 0 in
theorem PySem.Challenge.cw_takehouse_s01_answers_holds : PySem.Challenge.rw_takehouse_s01_answers.Holds := by
  w_on; k_headS; (case hw => exact ⟨[.list [.int 4]], by decide +kernel, by decide +kernel⟩)
  k_fillS
  refine L2.walk_specK (r := PySem.Challenge.rw_takehouse_s01_answers) (k := 12) (CX := L2.CX0) (ps := ["calls"]) (sp := Tk.spAns) (by decide +kernel) rfl rfl ⟨rfl, by decide, by decide⟩ (fun w h Y => PySem.W.kIn_of Y) ?F ?S (fun _ _ _ _ z => z)
  case F =>
    intro w mg fa h Y KX G hmg
    refine' Tk.all_mk KX G hmg ?g_PLACES ?g_PAD_PLACE ?g_MOST_DONE ?g_MARK_TIMES ?g_MARK_MORE ?g_MARK_REST ?g_MOST_BYTES ?g_MOST_FRAMES ?g_MOST_TAKES ?n_len ?n_list ?n_all ?n_min ?n_range ?n_zip ?n_enumerate ?n_Exception ?aM ?pgM ?hdM ?poM ?saM ?mkM ?kcM ?noM_content ?noM_a ?noM_x ?noM_place ?noM_z ?noM_c ?a_Machine_init ?i_Machine_init ?l_Machine_init ?c_Machine_init ?q_Machine_init ?aT ?pgT ?hdT ?poT ?saT ?mkT ?kcT ?noT_parent ?noT_ahead ?noT_pads ?noT_marks ?a_Take_init ?i_Take_init ?l_Take_init ?c_Take_init ?q_Take_init ?aH ?pgH ?hdH ?poH ?saH ?mkH ?kcH ?noH_loaded ?noH_takes ?noH_here ?noH_played ?noH_machine ?a_House_init ?i_House_init ?l_House_init ?c_House_init ?q_House_init ?aC ?pgC ?hdC ?poC ?saC ?mkC ?kcC ?noC_numbers ?noC_at ?a_Calls_init ?i_Calls_init ?l_Calls_init ?c_Calls_init ?q_Calls_init ?a_next_number ?i_next_number ?l_next_number ?c_next_number ?q_next_number ?a_next_row ?i_next_row ?l_next_row ?c_next_row ?q_next_row ?aD ?xD ?saD ?eD ?tD ?kD ?gaD ?ggD ?hdD ?nnD ?iD ?sD ?a_Denied_init ?t_Denied_init ?l_Denied_init ?c_Denied_init ?q_Denied_init ?a_copied ?l_copied ?c_copied ?q_copied ?a_byte_at ?l_byte_at ?c_byte_at ?q_byte_at ?a_set_byte ?l_set_byte ?c_set_byte ?q_set_byte ?a_set_a ?l_set_a ?c_set_a ?q_set_a ?a_set_x ?l_set_x ?c_set_x ?q_set_x ?a_add_or_take ?l_add_or_take ?c_add_or_take ?q_add_or_take ?a_move ?l_move ?c_move ?q_move ?a_jumps ?l_jumps ?c_jumps ?q_jumps ?a_do_one ?l_do_one ?c_do_one ?q_do_one ?a_run_frame ?l_run_frame ?c_run_frame ?q_run_frame ?a_as_numbers ?l_as_numbers ?c_as_numbers ?q_as_numbers ?a_mark_of ?l_mark_of ?c_mark_of ?q_mark_of ?a_are_alike ?l_are_alike ?c_are_alike ?q_are_alike ?a_machine_ahead ?l_machine_ahead ?c_machine_ahead ?q_machine_ahead ?a_go_to ?l_go_to ?c_go_to ?q_go_to ?a_play_on ?l_play_on ?c_play_on ?q_play_on ?a_play_pad ?l_play_pad ?c_play_pad ?q_play_pad ?a_first_difference ?l_first_difference ?c_first_difference ?q_first_difference ?a_first_unlike ?l_first_unlike ?c_first_unlike ?q_first_unlike ?a_count_free ?l_count_free ?c_count_free ?q_count_free ?a_first_stray ?l_first_stray ?c_first_stray ?q_first_stray ?a_need ?l_need ?c_need ?q_need ?a_are_bytes ?l_are_bytes ?c_are_bytes ?q_are_bytes ?a_take_of ?l_take_of ?c_take_of ?q_take_of ?a_where ?l_where ?c_where ?q_where ?a_need_room ?l_need_room ?c_need_room ?q_need_room ?a_play_all ?l_play_all ?c_play_all ?q_play_all ?a_do_begin ?l_do_begin ?c_do_begin ?q_do_begin ?a_do_play ?l_do_play ?c_do_play ?q_do_play ?a_do_on ?l_do_on ?c_do_on ?q_do_on ?a_do_go ?l_do_go ?c_do_go ?q_do_go ?a_do_takes ?l_do_takes ?c_do_takes ?q_do_takes ?a_do_pads ?l_do_pads ?c_do_pads ?q_do_pads ?a_do_put ?l_do_put ?c_do_put ?q_do_put ?a_need_frame ?l_need_frame ?c_need_frame ?q_need_frame ?a_do_cut ?l_do_cut ?c_do_cut ?q_do_cut ?a_do_parts ?l_do_parts ?c_do_parts ?q_do_parts ?a_do_free ?l_do_free ?c_do_free ?q_do_free ?a_do_patch ?l_do_patch ?c_do_patch ?q_do_patch ?a_do_strays ?l_do_strays ?c_do_strays ?q_do_strays ?a_call_of_one ?l_call_of_one ?c_call_of_one ?q_call_of_one ?a_answer_call ?l_answer_call ?c_answer_call ?q_answer_call ?a_answers ?l_answers ?c_answers ?q_answers
    (case g_PLACES => exact ⟨_, by k_is⟩)
    (case g_PAD_PLACE => exact ⟨_, by k_is⟩)
    (case g_MOST_DONE => exact ⟨_, by k_is⟩)
    (case g_MARK_TIMES => exact ⟨_, by k_is⟩)
    (case g_MARK_MORE => exact ⟨_, by k_is⟩)
    (case g_MARK_REST => exact ⟨_, by k_is⟩)
    (case g_MOST_BYTES => exact ⟨_, by k_is⟩)
    (case g_MOST_FRAMES => exact ⟨_, by k_is⟩)
    (case g_MOST_TAKES => exact ⟨_, by k_is⟩)
    (case n_len => k_is)
    (case n_list => k_is)
    (case n_all => k_is)
    (case n_min => k_is)
    (case n_range => k_is)
    (case n_zip => k_is)
    (case n_enumerate => k_is)
    (case n_Exception => k_is)
    (case aM => k_is)
    (case pgM => k_is)
    (case hdM => k_is)
    (case poM => k_is)
    (case saM => k_is)
    (case mkM => k_is)
    (case kcM => k_is)
    (case noM_content => k_is)
    (case noM_a => k_is)
    (case noM_x => k_is)
    (case noM_place => k_is)
    (case noM_z => k_is)
    (case noM_c => k_is)
    (case a_Machine_init => k_is)
    (case i_Machine_init => k_is)
    (case l_Machine_init => k_is)
    (case c_Machine_init => k_is)
    (case q_Machine_init => k_is)
    (case aT => k_is)
    (case pgT => k_is)
    (case hdT => k_is)
    (case poT => k_is)
    (case saT => k_is)
    (case mkT => k_is)
    (case kcT => k_is)
    (case noT_parent => k_is)
    (case noT_ahead => k_is)
    (case noT_pads => k_is)
    (case noT_marks => k_is)
    (case a_Take_init => k_is)
    (case i_Take_init => k_is)
    (case l_Take_init => k_is)
    (case c_Take_init => k_is)
    (case q_Take_init => k_is)
    (case aH => k_is)
    (case pgH => k_is)
    (case hdH => k_is)
    (case poH => k_is)
    (case saH => k_is)
    (case mkH => k_is)
    (case kcH => k_is)
    (case noH_loaded => k_is)
    (case noH_takes => k_is)
    (case noH_here => k_is)
    (case noH_played => k_is)
    (case noH_machine => k_is)
    (case a_House_init => k_is)
    (case i_House_init => k_is)
    (case l_House_init => k_is)
    (case c_House_init => k_is)
    (case q_House_init => k_is)
    (case aC => k_is)
    (case pgC => k_is)
    (case hdC => k_is)
    (case poC => k_is)
    (case saC => k_is)
    (case mkC => k_is)
    (case kcC => k_is)
    (case noC_numbers => k_is)
    (case noC_at => k_is)
    (case a_Calls_init => k_is)
    (case i_Calls_init => k_is)
    (case l_Calls_init => k_is)
    (case c_Calls_init => k_is)
    (case q_Calls_init => k_is)
    (case a_next_number => k_is)
    (case i_next_number => k_is)
    (case l_next_number => k_is)
    (case c_next_number => k_is)
    (case q_next_number => k_is)
    (case a_next_row => k_is)
    (case i_next_row => k_is)
    (case l_next_row => k_is)
    (case c_next_row => k_is)
    (case q_next_row => k_is)
    (case aD => k_is)
    (case xD => k_is)
    (case saD => k_is)
    (case eD => k_is)
    (case tD => k_is)
    (case kD => k_is)
    (case gaD => k_is)
    (case ggD => k_is)
    (case hdD => k_is)
    (case nnD => k_is)
    (case iD => k_is)
    (case sD => first | rfl | k_is)
    (case a_Denied_init => k_is)
    (case t_Denied_init => k_is)
    (case l_Denied_init => k_is)
    (case c_Denied_init => k_is)
    (case q_Denied_init => k_is)
    (case a_copied => k_is)
    (case l_copied => k_is)
    (case c_copied => k_is)
    (case q_copied => k_is)
    (case a_byte_at => k_is)
    (case l_byte_at => k_is)
    (case c_byte_at => k_is)
    (case q_byte_at => k_is)
    (case a_set_byte => k_is)
    (case l_set_byte => k_is)
    (case c_set_byte => k_is)
    (case q_set_byte => k_is)
    (case a_set_a => k_is)
    (case l_set_a => k_is)
    (case c_set_a => k_is)
    (case q_set_a => k_is)
    (case a_set_x => k_is)
    (case l_set_x => k_is)
    (case c_set_x => k_is)
    (case q_set_x => k_is)
    (case a_add_or_take => k_is)
    (case l_add_or_take => k_is)
    (case c_add_or_take => k_is)
    (case q_add_or_take => k_is)
    (case a_move => k_is)
    (case l_move => k_is)
    (case c_move => k_is)
    (case q_move => k_is)
    (case a_jumps => k_is)
    (case l_jumps => k_is)
    (case c_jumps => k_is)
    (case q_jumps => k_is)
    (case a_do_one => k_is)
    (case l_do_one => k_is)
    (case c_do_one => k_is)
    (case q_do_one => k_is)
    (case a_run_frame => k_is)
    (case l_run_frame => k_is)
    (case c_run_frame => k_is)
    (case q_run_frame => k_is)
    (case a_as_numbers => k_is)
    (case l_as_numbers => k_is)
    (case c_as_numbers => k_is)
    (case q_as_numbers => k_is)
    (case a_mark_of => k_is)
    (case l_mark_of => k_is)
    (case c_mark_of => k_is)
    (case q_mark_of => k_is)
    (case a_are_alike => k_is)
    (case l_are_alike => k_is)
    (case c_are_alike => k_is)
    (case q_are_alike => k_is)
    (case a_machine_ahead => k_is)
    (case l_machine_ahead => k_is)
    (case c_machine_ahead => k_is)
    (case q_machine_ahead => k_is)
    (case a_go_to => k_is)
    (case l_go_to => k_is)
    (case c_go_to => k_is)
    (case q_go_to => k_is)
    (case a_play_on => k_is)
    (case l_play_on => k_is)
    (case c_play_on => k_is)
    (case q_play_on => k_is)
    (case a_play_pad => k_is)
    (case l_play_pad => k_is)
    (case c_play_pad => k_is)
    (case q_play_pad => k_is)
    (case a_first_difference => k_is)
    (case l_first_difference => k_is)
    (case c_first_difference => k_is)
    (case q_first_difference => k_is)
    (case a_first_unlike => k_is)
    (case l_first_unlike => k_is)
    (case c_first_unlike => k_is)
    (case q_first_unlike => k_is)
    (case a_count_free => k_is)
    (case l_count_free => k_is)
    (case c_count_free => k_is)
    (case q_count_free => k_is)
    (case a_first_stray => k_is)
    (case l_first_stray => k_is)
    (case c_first_stray => k_is)
    (case q_first_stray => k_is)
    (case a_need => k_is)
    (case l_need => k_is)
    (case c_need => k_is)
    (case q_need => k_is)
    (case a_are_bytes => k_is)
    (case l_are_bytes => k_is)
    (case c_are_bytes => k_is)
    (case q_are_bytes => k_is)
    (case a_take_of => k_is)
    (case l_take_of => k_is)
    (case c_take_of => k_is)
    (case q_take_of => k_is)
    (case a_where => k_is)
    (case l_where => k_is)
    (case c_where => k_is)
    (case q_where => k_is)
    (case a_need_room => k_is)
    (case l_need_room => k_is)
    (case c_need_room => k_is)
    (case q_need_room => k_is)
    (case a_play_all => k_is)
    (case l_play_all => k_is)
    (case c_play_all => k_is)
    (case q_play_all => k_is)
    (case a_do_begin => k_is)
    (case l_do_begin => k_is)
    (case c_do_begin => k_is)
    (case q_do_begin => k_is)
    (case a_do_play => k_is)
    (case l_do_play => k_is)
    (case c_do_play => k_is)
    (case q_do_play => k_is)
    (case a_do_on => k_is)
    (case l_do_on => k_is)
    (case c_do_on => k_is)
    (case q_do_on => k_is)
    (case a_do_go => k_is)
    (case l_do_go => k_is)
    (case c_do_go => k_is)
    (case q_do_go => k_is)
    (case a_do_takes => k_is)
    (case l_do_takes => k_is)
    (case c_do_takes => k_is)
    (case q_do_takes => k_is)
    (case a_do_pads => k_is)
    (case l_do_pads => k_is)
    (case c_do_pads => k_is)
    (case q_do_pads => k_is)
    (case a_do_put => k_is)
    (case l_do_put => k_is)
    (case c_do_put => k_is)
    (case q_do_put => k_is)
    (case a_need_frame => k_is)
    (case l_need_frame => k_is)
    (case c_need_frame => k_is)
    (case q_need_frame => k_is)
    (case a_do_cut => k_is)
    (case l_do_cut => k_is)
    (case c_do_cut => k_is)
    (case q_do_cut => k_is)
    (case a_do_parts => k_is)
    (case l_do_parts => k_is)
    (case c_do_parts => k_is)
    (case q_do_parts => k_is)
    (case a_do_free => k_is)
    (case l_do_free => k_is)
    (case c_do_free => k_is)
    (case q_do_free => k_is)
    (case a_do_patch => k_is)
    (case l_do_patch => k_is)
    (case c_do_patch => k_is)
    (case q_do_patch => k_is)
    (case a_do_strays => k_is)
    (case l_do_strays => k_is)
    (case c_do_strays => k_is)
    (case q_do_strays => k_is)
    (case a_call_of_one => k_is)
    (case l_call_of_one => k_is)
    (case c_call_of_one => k_is)
    (case q_call_of_one => k_is)
    (case a_answer_call => k_is)
    (case l_answer_call => k_is)
    (case c_answer_call => k_is)
    (case q_answer_call => k_is)
    (case a_answers => k_is)
    (case l_answers => k_is)
    (case c_answers => k_is)
    (case q_answers => k_is)
  case S =>
    intro K H xs a hO hwi hask hx
    cases hx with
    | cons h1 h2 =>
      cases h2
      cases h1 with
      | lst hs ha =>
        have e := L2.ints_dw a.1 _ ha
        subst e
        have q : ((Codec.inLen 0 12200 a.1 && a.1.all (Codec.inInt (-1000000) 1000000)) && true) = true := hwi
        rw [Bool.and_eq_true, Bool.and_eq_true] at q
        exact ⟨_, a.1, rfl, hs, (Codec.inNat_iff.mp q.1.1).2, hask, fun H' p hp => .lst (L2.SqL.of hp) (L2.dw_ints _)⟩
#print axioms PySem.Challenge.cw_takehouse_s01_answers_holds
